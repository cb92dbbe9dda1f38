-- Made by the session's own driver (wip/tools/p2.py) out of the translation; Lean checks it.
import Derived.Test.YthjodhmkmjabbaaPYx0
import Derived.Test.YthjodhmkmjabbaaPYx3
import Derived.Test.YthjodhmkmjabbaaPYx4
import Derived.Test.YthjodhmkmjabbaaPYx7
import Derived.Test.YthjodhmkmjabbaaPYx8
import Derived.Test.YthjodhmkmjabbaaGPath
namespace Go.Proofs.Ythjodhmkmjabbaa.PY
open Go.RowKit Go.Proofs.YthjodhmkmjabbaaW.PrintWords Go.Proofs.YthjodhmkmjabbaaW.PrintLast Go.Proofs.YthjodhmkmjabbaaW.PrintMore
attribute [local go_sem] max2_int min2_int max_two min_two max_three min_three max_four min_four   -- for this text's walks alone
set_option linter.unusedVariables false
set_option linter.unusedSimpArgs false

/-! ### galloonlaw03_YardPaths: function 3 -/
mutual
def galloonlaw03_YardPaths.j0 : Nat → ByteArray → Int → Int → Int → Int → Bool → Int → Int → Option (Bool)
  | 0, _, _, _, _, _, _, _, _ => none
  | k + 1, x3, x4, x7, x8, x9, x71, x171000, x171001 => if x71 = true then (some false) else (if x171001 > 1000 then (if x7 = 0 then (if x8 = 0 then (if x9 = 2 then (galloonlaw03_YardPaths.j1 k x3 x4 x171000 x171001) else (some false)) else (some false)) else (some false)) else ((galloonref03_Saw.f k x171000 x171001).bind fun bt186 => (if x7 = bt186.1 then (if x8 = bt186.2 then (if x9 = 0 then (galloonlaw03_YardPaths.j1 k x3 x4 x171000 x171001) else (some false)) else (some false)) else (some false))))
def galloonlaw03_YardPaths.j1 : Nat → ByteArray → Int → Int → Int → Option (Bool)
  | 0, _, _, _, _ => none
  | k + 1, x3, x4, x171000, x171001 => if x171001 = 1 then (if x3.toList = ([] : List UInt8) then (if x4 = 2 then ((galloonlaw03_awake.f k).bind fun t188 => (some t188)) else (some false)) else (some false)) else ((galloonref03_Path.f k x171000 x171001).bind fun bt189 => (if bt189.2 = true then (if x3.toList = bt189.1.toList then (if x4 = 0 then ((galloonlaw03_awake.f k).bind fun t191 => (some t191)) else (some false)) else (some false)) else (if x3.toList = ([] : List UInt8) then (if x4 = 5 then ((galloonlaw03_awake.f k).bind fun t192 => (some t192)) else (some false)) else (some false))))
end
def galloonlaw03_YardPaths.f (k : Nat) (a0_0 : Int) (a0_1 : Int) : Option (Bool) := (yard_Path.f k a0_0 a0_1).bind fun bt171 => ((yard_Quotients.f k a0_0 a0_1).bind fun bt173 => ((yard_Saw.f k a0_0 a0_1).bind fun bt177 => ((galloonref03_Valid.f k a0_0 a0_1).bind fun t180 => (if t180 = true then ((galloonref03_Quotients.f k a0_0 a0_1).bind fun t182 => ((galloonlaw03_ints.f k bt173.1 t182).bind fun t185 => (if t185 = true then (galloonlaw03_YardPaths.j0 k bt171.1 bt171.2 bt177.1 bt177.2.1 bt177.2.2 (bt173.2 != 0) a0_0 a0_1) else (galloonlaw03_YardPaths.j0 k bt171.1 bt171.2 bt177.1 bt177.2.1 bt177.2.2 true a0_0 a0_1)))) else (if bt171.1.toList = ([] : List UInt8) then (if bt171.2 = 2 then (if (bt173.1.length : Int) = 0 then (if bt173.2 = 2 then (if bt177.1 = 0 then (if bt177.2.1 = 0 then (if bt177.2.2 = 2 then ((galloonlaw03_awake.f k).bind fun t181 => (some t181)) else (some false)) else (some false)) else (some false)) else (some false)) else (some false)) else (some false)) else (some false))))))
theorem galloonlaw03_YardPaths.mono_l : ∀ k, (∀ y0 y1 y2 y3 y4 y5 y6 y7, LeO (galloonlaw03_YardPaths.j0 k y0 y1 y2 y3 y4 y5 y6 y7) (galloonlaw03_YardPaths.j0 (k + 1) y0 y1 y2 y3 y4 y5 y6 y7)) ∧ (∀ y0 y1 y2 y3, LeO (galloonlaw03_YardPaths.j1 k y0 y1 y2 y3) (galloonlaw03_YardPaths.j1 (k + 1) y0 y1 y2 y3))
  | 0 => ⟨fun _ _ _ _ _ _ _ _ r h => by simp [galloonlaw03_YardPaths.j0] at h, fun _ _ _ _ r h => by simp [galloonlaw03_YardPaths.j1] at h⟩
  | k + 1 => by
    obtain ⟨ih0, ih1⟩ := galloonlaw03_YardPaths.mono_l k
    refine ⟨?_, ?_⟩
    · intro y0 y1 y2 y3 y4 y5 y6 y7
      unfold galloonlaw03_YardPaths.j0
      repeat' first
      | (with_reducible exact ih0 _ _ _ _ _ _ _ _)
      | (with_reducible exact ih1 _ _ _ _)
      | (with_reducible exact galloonlaw03_awake.mono _)
      | (with_reducible exact galloonlaw03_ints.mono _ _ _)
      | (with_reducible exact galloonref03_Path.mono _ _ _)
      | (with_reducible exact galloonref03_Quotients.mono _ _ _)
      | (with_reducible exact galloonref03_Saw.mono _ _ _)
      | (with_reducible exact galloonref03_Valid.mono _ _ _)
      | (with_reducible exact yard_Path.mono _ _ _)
      | (with_reducible exact yard_Quotients.mono _ _ _)
      | (with_reducible exact yard_Saw.mono _ _ _)
      | (with_reducible exact LeO.refl _)
      | (with_reducible exact LeO.none _)
      | (with_reducible refine LeO.ite ?_ ?_)
      | (with_reducible refine LeO.bind ?_ (fun _ => ?_))
      | exact ih0 _ _ _ _ _ _ _ _
      | exact ih1 _ _ _ _
      | exact galloonlaw03_awake.mono _
      | exact galloonlaw03_ints.mono _ _ _
      | exact galloonref03_Path.mono _ _ _
      | exact galloonref03_Quotients.mono _ _ _
      | exact galloonref03_Saw.mono _ _ _
      | exact galloonref03_Valid.mono _ _ _
      | exact yard_Path.mono _ _ _
      | exact yard_Quotients.mono _ _ _
      | exact yard_Saw.mono _ _ _
      | exact LeO.none _
      | refine LeO.ite ?_ ?_
      | refine LeO.bind ?_ (fun _ => ?_)
    · intro y0 y1 y2 y3
      unfold galloonlaw03_YardPaths.j1
      repeat' first
      | (with_reducible exact ih0 _ _ _ _ _ _ _ _)
      | (with_reducible exact ih1 _ _ _ _)
      | (with_reducible exact galloonlaw03_awake.mono _)
      | (with_reducible exact galloonlaw03_ints.mono _ _ _)
      | (with_reducible exact galloonref03_Path.mono _ _ _)
      | (with_reducible exact galloonref03_Quotients.mono _ _ _)
      | (with_reducible exact galloonref03_Saw.mono _ _ _)
      | (with_reducible exact galloonref03_Valid.mono _ _ _)
      | (with_reducible exact yard_Path.mono _ _ _)
      | (with_reducible exact yard_Quotients.mono _ _ _)
      | (with_reducible exact yard_Saw.mono _ _ _)
      | (with_reducible exact LeO.refl _)
      | (with_reducible exact LeO.none _)
      | (with_reducible refine LeO.ite ?_ ?_)
      | (with_reducible refine LeO.bind ?_ (fun _ => ?_))
      | exact ih0 _ _ _ _ _ _ _ _
      | exact ih1 _ _ _ _
      | exact galloonlaw03_awake.mono _
      | exact galloonlaw03_ints.mono _ _ _
      | exact galloonref03_Path.mono _ _ _
      | exact galloonref03_Quotients.mono _ _ _
      | exact galloonref03_Saw.mono _ _ _
      | exact galloonref03_Valid.mono _ _ _
      | exact yard_Path.mono _ _ _
      | exact yard_Quotients.mono _ _ _
      | exact yard_Saw.mono _ _ _
      | exact LeO.none _
      | refine LeO.ite ?_ ?_
      | refine LeO.bind ?_ (fun _ => ?_)
theorem galloonlaw03_YardPaths.mono : ∀ a0 a1 k, LeO (galloonlaw03_YardPaths.f k a0 a1) (galloonlaw03_YardPaths.f (k + 1) a0 a1) := by
  intro a0 a1 k
  obtain ⟨ih0, ih1⟩ := galloonlaw03_YardPaths.mono_l k
  unfold galloonlaw03_YardPaths.f
  repeat' first
      | (with_reducible exact ih0 _ _ _ _ _ _ _ _)
      | (with_reducible exact ih1 _ _ _ _)
      | (with_reducible exact galloonlaw03_awake.mono _)
      | (with_reducible exact galloonlaw03_ints.mono _ _ _)
      | (with_reducible exact galloonref03_Path.mono _ _ _)
      | (with_reducible exact galloonref03_Quotients.mono _ _ _)
      | (with_reducible exact galloonref03_Saw.mono _ _ _)
      | (with_reducible exact galloonref03_Valid.mono _ _ _)
      | (with_reducible exact yard_Path.mono _ _ _)
      | (with_reducible exact yard_Quotients.mono _ _ _)
      | (with_reducible exact yard_Saw.mono _ _ _)
      | (with_reducible exact LeO.refl _)
      | (with_reducible exact LeO.none _)
      | (with_reducible refine LeO.ite ?_ ?_)
      | (with_reducible refine LeO.bind ?_ (fun _ => ?_))
      | exact ih0 _ _ _ _ _ _ _ _
      | exact ih1 _ _ _ _
      | exact galloonlaw03_awake.mono _
      | exact galloonlaw03_ints.mono _ _ _
      | exact galloonref03_Path.mono _ _ _
      | exact galloonref03_Quotients.mono _ _ _
      | exact galloonref03_Saw.mono _ _ _
      | exact galloonref03_Valid.mono _ _ _
      | exact yard_Path.mono _ _ _
      | exact yard_Quotients.mono _ _ _
      | exact yard_Saw.mono _ _ _
      | exact LeO.none _
      | refine LeO.ite ?_ ?_
      | refine LeO.bind ?_ (fun _ => ?_)
set_option maxHeartbeats 8000000 in
set_option maxRecDepth 100000 in
theorem galloonlaw03_YardPaths.calls (k : Nat) (a0_0 : Int) (a0_1 : Int) (r : Bool) (w : World) (h : galloonlaw03_YardPaths.f k a0_0 a0_1 = some r) (hr : Aside0 (r = true)) :
    Calls Try.prog 3 #[.agg #[.int .i64 a0_0, .int .i64 a0_1]] w fun e w' => e = .returned (.bool r) ∧ Below w.heap.size w w' := by
  have hu23 := Try.underlying23
  have HB := Aside0.mk (Below.refl w.heap.size w)
  have H : ((yard_Path.f k a0_0 a0_1).bind fun bt171 => ((yard_Quotients.f k a0_0 a0_1).bind fun bt173 => ((yard_Saw.f k a0_0 a0_1).bind fun bt177 => ((galloonref03_Valid.f k a0_0 a0_1).bind fun t180 => (if t180 = true then ((galloonref03_Quotients.f k a0_0 a0_1).bind fun t182 => ((galloonlaw03_ints.f k bt173.1 t182).bind fun t185 => (if t185 = true then (galloonlaw03_YardPaths.j0 k bt171.1 bt171.2 bt177.1 bt177.2.1 bt177.2.2 (bt173.2 != 0) a0_0 a0_1) else (galloonlaw03_YardPaths.j0 k bt171.1 bt171.2 bt177.1 bt177.2.1 bt177.2.2 true a0_0 a0_1)))) else (if bt171.1.toList = ([] : List UInt8) then (if bt171.2 = 2 then (if (bt173.1.length : Int) = 0 then (if bt173.2 = 2 then (if bt177.1 = 0 then (if bt177.2.1 = 0 then (if bt177.2.2 = 2 then ((galloonlaw03_awake.f k).bind fun t181 => (some t181)) else (some false)) else (some false)) else (some false)) else (some false)) else (some false)) else (some false)) else (some false))))))) = some r := h
  clear h
  replace H := Option.bind_eq_some_iff.mp H
  obtain ⟨⟨t171, t172⟩, A20, H⟩ := H
  replace H : ((yard_Quotients.f k a0_0 a0_1).bind fun bt173 => ((yard_Saw.f k a0_0 a0_1).bind fun bt177 => ((galloonref03_Valid.f k a0_0 a0_1).bind fun t180 => (if t180 = true then ((galloonref03_Quotients.f k a0_0 a0_1).bind fun t182 => ((galloonlaw03_ints.f k bt173.1 t182).bind fun t185 => (if t185 = true then (galloonlaw03_YardPaths.j0 k t171 t172 bt177.1 bt177.2.1 bt177.2.2 (bt173.2 != 0) a0_0 a0_1) else (galloonlaw03_YardPaths.j0 k t171 t172 bt177.1 bt177.2.1 bt177.2.2 true a0_0 a0_1)))) else (if t171.toList = ([] : List UInt8) then (if t172 = 2 then (if (bt173.1.length : Int) = 0 then (if bt173.2 = 2 then (if bt177.1 = 0 then (if bt177.2.1 = 0 then (if bt177.2.2 = 2 then ((galloonlaw03_awake.f k).bind fun t181 => (some t181)) else (some false)) else (some false)) else (some false)) else (some false)) else (some false)) else (some false)) else (some false)))))) = some r := H
  have A2 := Aside0.mk A20
  clear A20
  replace H := Option.bind_eq_some_iff.mp H
  obtain ⟨⟨t173, t176⟩, A30, H⟩ := H
  replace H : ((yard_Saw.f k a0_0 a0_1).bind fun bt177 => ((galloonref03_Valid.f k a0_0 a0_1).bind fun t180 => (if t180 = true then ((galloonref03_Quotients.f k a0_0 a0_1).bind fun t182 => ((galloonlaw03_ints.f k t173 t182).bind fun t185 => (if t185 = true then (galloonlaw03_YardPaths.j0 k t171 t172 bt177.1 bt177.2.1 bt177.2.2 (t176 != 0) a0_0 a0_1) else (galloonlaw03_YardPaths.j0 k t171 t172 bt177.1 bt177.2.1 bt177.2.2 true a0_0 a0_1)))) else (if t171.toList = ([] : List UInt8) then (if t172 = 2 then (if (t173.length : Int) = 0 then (if t176 = 2 then (if bt177.1 = 0 then (if bt177.2.1 = 0 then (if bt177.2.2 = 2 then ((galloonlaw03_awake.f k).bind fun t181 => (some t181)) else (some false)) else (some false)) else (some false)) else (some false)) else (some false)) else (some false)) else (some false))))) = some r := H
  have A3 := Aside0.mk A30
  clear A30
  replace H := Option.bind_eq_some_iff.mp H
  obtain ⟨⟨t177, t178, t179⟩, A40, H⟩ := H
  replace H : ((galloonref03_Valid.f k a0_0 a0_1).bind fun t180 => (if t180 = true then ((galloonref03_Quotients.f k a0_0 a0_1).bind fun t182 => ((galloonlaw03_ints.f k t173 t182).bind fun t185 => (if t185 = true then (galloonlaw03_YardPaths.j0 k t171 t172 t177 t178 t179 (t176 != 0) a0_0 a0_1) else (galloonlaw03_YardPaths.j0 k t171 t172 t177 t178 t179 true a0_0 a0_1)))) else (if t171.toList = ([] : List UInt8) then (if t172 = 2 then (if (t173.length : Int) = 0 then (if t176 = 2 then (if t177 = 0 then (if t178 = 0 then (if t179 = 2 then ((galloonlaw03_awake.f k).bind fun t181 => (some t181)) else (some false)) else (some false)) else (some false)) else (some false)) else (some false)) else (some false)) else (some false)))) = some r := H
  have A4 := Aside0.mk A40
  clear A40
  replace H := Option.bind_eq_some_iff.mp H
  obtain ⟨t180, A50, H⟩ := H
  replace H : (if t180 = true then ((galloonref03_Quotients.f k a0_0 a0_1).bind fun t182 => ((galloonlaw03_ints.f k t173 t182).bind fun t185 => (if t185 = true then (galloonlaw03_YardPaths.j0 k t171 t172 t177 t178 t179 (t176 != 0) a0_0 a0_1) else (galloonlaw03_YardPaths.j0 k t171 t172 t177 t178 t179 true a0_0 a0_1)))) else (if t171.toList = ([] : List UInt8) then (if t172 = 2 then (if (t173.length : Int) = 0 then (if t176 = 2 then (if t177 = 0 then (if t178 = 0 then (if t179 = 2 then ((galloonlaw03_awake.f k).bind fun t181 => (some t181)) else (some false)) else (some false)) else (some false)) else (some false)) else (some false)) else (some false)) else (some false))) = some r := H
  have A5 := Aside0.mk A50
  clear A50
  by_cases c6 : t180 = true
  · subst c6
    have H1 : ((galloonref03_Quotients.f k a0_0 a0_1).bind fun t182 => ((galloonlaw03_ints.f k t173 t182).bind fun t185 => (if t185 = true then (galloonlaw03_YardPaths.j0 k t171 t172 t177 t178 t179 (t176 != 0) a0_0 a0_1) else (galloonlaw03_YardPaths.j0 k t171 t172 t177 t178 t179 true a0_0 a0_1)))) = some r := by rw [if_pos rfl] at H; exact H
    clear H
    have H := H1
    clear H1
    have HC7 := Aside0.mk H
    clear H
    go_enter Try.func3, Try.ntmps3
    go_upto_region 6 with (first | ((with_reducible refine gate_dst (N := 1) rfl ?_); (try (refine gate_guard (by rfl) ?_; dsimp only)); refine box_event ?hg (N := 1) ?hd (cs := #[.int .i64 a0_0, .int .i64 a0_1]) (t := 23) ?hr ?_; (case hd => rfl); (case hg => rfl); (case hr => first | (go_simp; done) | (go_simp; rfl)); intro gb170 hg w8 hbox hb; have n0_ := Aside0.mk (below_step (by repeat (first | (with_reducible first | exact HB.out | apply below_alloc | apply pw_below_drewN | apply below_drew1) | exact HB.out)) hb); have n1_ := Aside0.mk (hbox); have n2_ := Aside0.mk ((by rw [hg]; exact (below_size (by repeat (first | (with_reducible first | exact HB.out | apply below_alloc | apply pw_below_drewN | apply below_drew1) | exact HB.out))) : w.heap.size ≤ gb170)); have n3_ := Aside0.mk ((by rw [hg]; exact (below_size (by repeat (first | (with_reducible first | exact HB.out | apply below_alloc | apply pw_below_drewN | apply below_drew1) | exact HB.out))) : w.heap.size ≤ gb170)); clear HB; have HB := n0_; have BK170 := n1_; have GW170 := n2_; have GE170 := n3_; clear n0_ n1_ n2_ n3_; clear hb hbox hg; have hcz9_0 : w8.cell? ⟨gb170, 0, none⟩ = some (.int .i64 a0_0) := (blk_cell BK170.out 0).trans rfl; have hcz9_1 : w8.cell? ⟨gb170, 1, none⟩ = some (.int .i64 a0_1) := (blk_cell BK170.out 1).trans rfl; have hfz9_0 := blk_frozen BK170.out 0; have hfz9_1 := blk_frozen BK170.out 1) | ((with_reducible refine gate_callee (f := 17) rfl ?_); refine goesL_ (some 16) rfl rfl Try.func17 (by kernel_rfl) rfl #[.agg #[.int .i64 a0_0, .int .i64 a0_1]] rfl (by (try simp only [List.map_toArray, List.map_cons, List.map_nil]); first | done | rfl | (simp only [List.length_drop, List.length_take]; rfl)) ?_; (with_reducible refine (yard_Path.calls k a0_0 a0_1 t171 t172 _ A2.out).mono ?_); rintro e w10 ⟨rfl, hb⟩; refine ⟨_, rfl, ?_⟩; have n0_ := Aside0.mk (blk_below (g := gb170) (o := .cells #[.int .i64 a0_0, .int .i64 a0_1] 23 (0, 0)) (by (with_reducible repeat (first | refine blk_drewN ?_ _ | refine blk_drew ?_ | refine blk_alloc ?_ _)); exact BK170.out) hb); have n1_ := Aside0.mk (below_step (by repeat (first | (with_reducible first | exact HB.out | apply below_alloc | apply pw_below_drewN | apply below_drew1 | refine below_set ?_ GE170.out) | exact HB.out)) hb); clear BK170; clear HB; have BK170 := n0_; have HB := n1_; clear n0_ n1_; (try clear hb); (try clear hb2); (try clear hk); (try clear hi); have hcz11_0 : w10.cell? ⟨gb170, 0, none⟩ = some (.int .i64 a0_0) := (blk_cell BK170.out 0).trans rfl; have hcz11_1 : w10.cell? ⟨gb170, 1, none⟩ = some (.int .i64 a0_1) := (blk_cell BK170.out 1).trans rfl; have hfz11_0 := blk_frozen BK170.out 0; have hfz11_1 := blk_frozen BK170.out 1) | ((with_reducible refine gate_callee (f := 18) rfl ?_); refine goesL_ (some 21) rfl rfl Try.func18 (by kernel_rfl) rfl #[.agg #[.int .i64 a0_0, .int .i64 a0_1]] rfl (by (try simp only [List.map_toArray, List.map_cons, List.map_nil]); first | done | rfl | (simp only [List.length_drop, List.length_take]; rfl)) ?_; (with_reducible refine (yard_Quotients.calls k a0_0 a0_1 t173 t176 _ A3.out).mono ?_); rintro e w12 ⟨v174, rfl, ho0, hb⟩; refine ⟨_, rfl, ?_⟩; have n0_ := Aside0.mk (Kd.R_lower ho0 (below_size (by repeat (first | (with_reducible first | exact HB.out | apply below_alloc | apply pw_below_drewN | apply below_drew1 | refine below_set ?_ GE170.out) | exact HB.out)))); have n1_ := Aside0.mk (blk_below (g := gb170) (o := .cells #[.int .i64 a0_0, .int .i64 a0_1] 23 (0, 0)) (by (with_reducible repeat (first | refine blk_drewN ?_ _ | refine blk_drew ?_ | refine blk_alloc ?_ _)); exact BK170.out) hb); have n2_ := Aside0.mk (below_step (by repeat (first | (with_reducible first | exact HB.out | apply below_alloc | apply pw_below_drewN | apply below_drew1 | refine below_set ?_ GE170.out) | exact HB.out)) hb); clear BK170; clear HB; have HO175 := n0_; have BK170 := n1_; have HB := n2_; clear n0_ n1_ n2_; (try clear hb); (try clear hb2); (try clear hk); (try clear hi); (try clear ho0); have hcz13_0 : w12.cell? ⟨gb170, 0, none⟩ = some (.int .i64 a0_0) := (blk_cell BK170.out 0).trans rfl; have hcz13_1 : w12.cell? ⟨gb170, 1, none⟩ = some (.int .i64 a0_1) := (blk_cell BK170.out 1).trans rfl; have hfz13_0 := blk_frozen BK170.out 0; have hfz13_1 := blk_frozen BK170.out 1) | ((with_reducible refine gate_callee (f := 19) rfl ?_); refine goesL_ (some 26) rfl rfl Try.func19 (by kernel_rfl) rfl #[.agg #[.int .i64 a0_0, .int .i64 a0_1]] rfl (by (try simp only [List.map_toArray, List.map_cons, List.map_nil]); first | done | rfl | (simp only [List.length_drop, List.length_take]; rfl)) ?_; (with_reducible refine (yard_Saw.calls k a0_0 a0_1 t177 t178 t179 _ A4.out).mono ?_); rintro e w14 ⟨rfl, hb⟩; refine ⟨_, rfl, ?_⟩; have n0_ := Aside0.mk (Kd.R_below (by (with_reducible repeat (first | apply Kd.R_alloc | apply Kd.R_drewN | apply Kd.R_drew)); exact HO175.out) hb); have n1_ := Aside0.mk (blk_below (g := gb170) (o := .cells #[.int .i64 a0_0, .int .i64 a0_1] 23 (0, 0)) (by (with_reducible repeat (first | refine blk_drewN ?_ _ | refine blk_drew ?_ | refine blk_alloc ?_ _)); exact BK170.out) hb); have n2_ := Aside0.mk (below_step (by repeat (first | (with_reducible first | exact HB.out | apply below_alloc | apply pw_below_drewN | apply below_drew1 | refine below_set ?_ GE170.out) | exact HB.out)) hb); clear HO175; clear BK170; clear HB; have HO175 := n0_; have BK170 := n1_; have HB := n2_; clear n0_ n1_ n2_; (try clear hb); (try clear hb2); (try clear hk); (try clear hi); have hcz15_0 : w14.cell? ⟨gb170, 0, none⟩ = some (.int .i64 a0_0) := (blk_cell BK170.out 0).trans rfl; have hcz15_1 : w14.cell? ⟨gb170, 1, none⟩ = some (.int .i64 a0_1) := (blk_cell BK170.out 1).trans rfl; have hfz15_0 := blk_frozen BK170.out 0; have hfz15_1 := blk_frozen BK170.out 1) | ((with_reducible refine gate_callee (f := 20) rfl ?_); refine goesL_ (some 31) rfl rfl Try.func20 (by kernel_rfl) rfl #[.agg #[.int .i64 a0_0, .int .i64 a0_1]] rfl (by (try simp only [List.map_toArray, List.map_cons, List.map_nil]); first | done | rfl | (simp only [List.length_drop, List.length_take]; rfl)) ?_; (with_reducible refine (galloonref03_Valid.calls k a0_0 a0_1 true _ A5.out).mono ?_); rintro e w16 ⟨rfl, hb⟩; refine ⟨_, rfl, ?_⟩; have n0_ := Aside0.mk (Kd.R_below (by (with_reducible repeat (first | apply Kd.R_alloc | apply Kd.R_drewN | apply Kd.R_drew)); exact HO175.out) hb); have n1_ := Aside0.mk (blk_below (g := gb170) (o := .cells #[.int .i64 a0_0, .int .i64 a0_1] 23 (0, 0)) (by (with_reducible repeat (first | refine blk_drewN ?_ _ | refine blk_drew ?_ | refine blk_alloc ?_ _)); exact BK170.out) hb); have n2_ := Aside0.mk (below_step (by repeat (first | (with_reducible first | exact HB.out | apply below_alloc | apply pw_below_drewN | apply below_drew1 | refine below_set ?_ GE170.out) | exact HB.out)) hb); clear HO175; clear BK170; clear HB; have HO175 := n0_; have BK170 := n1_; have HB := n2_; clear n0_ n1_ n2_; (try clear hb); (try clear hb2); (try clear hk); (try clear hi)))
    (try simp only [Act.put, List.setIfInBounds_toArray, List.set_cons_zero, List.set_cons_succ])
    go_cut [71] (fun v71 wc => ∃ (kq : Nat) (x71_6 : Bool), v71 = .bool x71_6 ∧ Aside0 (galloonlaw03_YardPaths.j0 kq t171 t172 t177 t178 t179 x71_6 a0_0 a0_1 = some r) ∧ Aside0 (kq ≤ k) ∧ Aside0 (wc.heap[gb170]? = some (.cells #[.int .i64 a0_0, .int .i64 a0_1] 23 (0, 0))) ∧ Aside0 (Below w.heap.size w wc))
    case first =>
      have H := HC7.out
      clear HC7
      replace H := Option.bind_eq_some_iff.mp H
      obtain ⟨t182, A170, H⟩ := H
      replace H : ((galloonlaw03_ints.f k t173 t182).bind fun t185 => (if t185 = true then (galloonlaw03_YardPaths.j0 k t171 t172 t177 t178 t179 (t176 != 0) a0_0 a0_1) else (galloonlaw03_YardPaths.j0 k t171 t172 t177 t178 t179 true a0_0 a0_1))) = some r := H
      have A17 := Aside0.mk A170
      clear A170
      replace H := Option.bind_eq_some_iff.mp H
      obtain ⟨t185, A180, H⟩ := H
      replace H : (if t185 = true then (galloonlaw03_YardPaths.j0 k t171 t172 t177 t178 t179 (t176 != 0) a0_0 a0_1) else (galloonlaw03_YardPaths.j0 k t171 t172 t177 t178 t179 true a0_0 a0_1)) = some r := H
      have A18 := Aside0.mk A180
      clear A180
      by_cases c19 : t185 = true
      · subst c19
        have H1 : (galloonlaw03_YardPaths.j0 k t171 t172 t177 t178 t179 (t176 != 0) a0_0 a0_1) = some r := by rw [if_pos rfl] at H; exact H
        clear H
        have H := H1
        clear H1
        have H' := Aside0.mk H
        clear H
        have hcz20_0 : w16.cell? ⟨gb170, 0, none⟩ = some (.int .i64 a0_0) := (blk_cell BK170.out 0).trans rfl
        have hcz20_1 : w16.cell? ⟨gb170, 1, none⟩ = some (.int .i64 a0_1) := (blk_cell BK170.out 1).trans rfl
        have hfz20_0 := blk_frozen BK170.out 0
        have hfz20_1 := blk_frozen BK170.out 1
        go_wp2_with (first | ((with_reducible refine gate_callee (f := 23) rfl ?_); refine goesL_ (some 65) rfl rfl Try.func23 (by kernel_rfl) rfl #[.agg #[.int .i64 a0_0, .int .i64 a0_1]] rfl (by (try simp only [List.map_toArray, List.map_cons, List.map_nil]); first | done | rfl | (simp only [List.length_drop, List.length_take]; rfl)) ?_; (with_reducible refine (galloonref03_Quotients.calls k a0_0 a0_1 t182 _ A17.out).mono ?_); rintro e w21 ⟨v183, rfl, ho0, hb⟩; refine ⟨_, rfl, ?_⟩; have n0_ := Aside0.mk (Kd.R_elder' (by (with_reducible repeat (first | apply Kd.R_alloc | apply Kd.R_drewN | apply Kd.R_drew)); exact HO175.out) (Kd.R_base ho0) hb); have n1_ := Aside0.mk (Kd.R_lower (Kd.R_new' ho0 (Kd.R_lt (by (with_reducible repeat (first | apply Kd.R_alloc | apply Kd.R_drewN | apply Kd.R_drew)); exact HO175.out))) (below_size (by repeat (first | (with_reducible first | exact HB.out | apply below_alloc | apply pw_below_drewN | apply below_drew1 | refine below_set ?_ GE170.out) | exact HB.out)))); have n2_ := Aside0.mk (blk_below (g := gb170) (o := .cells #[.int .i64 a0_0, .int .i64 a0_1] 23 (0, 0)) (by (with_reducible repeat (first | refine blk_drewN ?_ _ | refine blk_drew ?_ | refine blk_alloc ?_ _)); exact BK170.out) hb); have n3_ := Aside0.mk (below_step (by repeat (first | (with_reducible first | exact HB.out | apply below_alloc | apply pw_below_drewN | apply below_drew1 | refine below_set ?_ GE170.out) | exact HB.out)) hb); clear HO175; clear BK170; clear HB; have HO175 := n0_; have HO184 := n1_; have BK170 := n2_; have HB := n3_; clear n0_ n1_ n2_ n3_; (try clear hb); (try clear hb2); (try clear hk); (try clear hi); (try clear ho0); obtain ⟨Ao22, co22, eo22⟩ := Kd.R_slice HO175.out; subst eo22; obtain ⟨Ao23, co23, eo23⟩ := Kd.R_slice HO184.out; subst eo23) | ((with_reducible refine gate_callee (f := 22) rfl ?_); refine goesL_ (some 66) rfl rfl Try.func22 (by kernel_rfl) rfl #[.slice Ao22 t173.length co22, .slice Ao23 t182.length co23] rfl (by (try simp only [List.map_toArray, List.map_cons, List.map_nil]); first | done | rfl | (simp only [List.length_drop, List.length_take]; rfl)) ?_; (with_reducible refine (galloonlaw03_ints.calls k _ _ t173 _ _ t182 true _ ?side1 ?side2 ?side3 ?side4 A18.out).mono ?_); (case side1 => repeat (first | exact (Kd.R_reads' HO175.out).2.2 | (with_reducible refine Kd.C_alloc ?_ _) | (with_reducible refine Kd.C_drewN ?_ _) | (with_reducible refine Kd.C_drew ?_))); (case side2 => exact (Kd.R_reads' HO175.out).2.1); (case side3 => repeat (first | exact (Kd.R_reads' HO184.out).2.2 | (with_reducible refine Kd.C_alloc ?_ _) | (with_reducible refine Kd.C_drewN ?_ _) | (with_reducible refine Kd.C_drew ?_))); (case side4 => exact (Kd.R_reads' HO184.out).2.1); rintro e w' ⟨rfl, ⟨nd, rfl⟩⟩; refine ⟨_, rfl, ?_⟩))
        go_meet
        case rel => exact ⟨_, ((t176 != 0)), (by first | rfl | (simp; done) | (simp [*]; done)), H', ⟨by first | omega | exact Nat.le_refl _⟩, ⟨by (with_reducible repeat (first | refine blk_drewN ?_ _ | refine blk_drew ?_ | refine blk_alloc ?_ _)); exact BK170.out⟩, ⟨by repeat (first | (with_reducible first | exact HB.out | apply below_alloc | apply pw_below_drewN | apply below_drew1 | refine below_set ?_ GE170.out) | exact HB.out)⟩⟩
      · replace c19 := Bool.eq_false_iff.mpr c19
        subst c19
        have H1 : (galloonlaw03_YardPaths.j0 k t171 t172 t177 t178 t179 true a0_0 a0_1) = some r := by rw [if_neg (show ¬ (false = true) by decide)] at H; exact H
        clear H
        have H := H1
        clear H1
        have H' := Aside0.mk H
        clear H
        have hcz24_0 : w16.cell? ⟨gb170, 0, none⟩ = some (.int .i64 a0_0) := (blk_cell BK170.out 0).trans rfl
        have hcz24_1 : w16.cell? ⟨gb170, 1, none⟩ = some (.int .i64 a0_1) := (blk_cell BK170.out 1).trans rfl
        have hfz24_0 := blk_frozen BK170.out 0
        have hfz24_1 := blk_frozen BK170.out 1
        go_wp2_with (first | ((with_reducible refine gate_callee (f := 23) rfl ?_); refine goesL_ (some 65) rfl rfl Try.func23 (by kernel_rfl) rfl #[.agg #[.int .i64 a0_0, .int .i64 a0_1]] rfl (by (try simp only [List.map_toArray, List.map_cons, List.map_nil]); first | done | rfl | (simp only [List.length_drop, List.length_take]; rfl)) ?_; (with_reducible refine (galloonref03_Quotients.calls k a0_0 a0_1 t182 _ A17.out).mono ?_); rintro e w25 ⟨v183, rfl, ho0, hb⟩; refine ⟨_, rfl, ?_⟩; have n0_ := Aside0.mk (Kd.R_elder' (by (with_reducible repeat (first | apply Kd.R_alloc | apply Kd.R_drewN | apply Kd.R_drew)); exact HO175.out) (Kd.R_base ho0) hb); have n1_ := Aside0.mk (Kd.R_lower (Kd.R_new' ho0 (Kd.R_lt (by (with_reducible repeat (first | apply Kd.R_alloc | apply Kd.R_drewN | apply Kd.R_drew)); exact HO175.out))) (below_size (by repeat (first | (with_reducible first | exact HB.out | apply below_alloc | apply pw_below_drewN | apply below_drew1 | refine below_set ?_ GE170.out) | exact HB.out)))); have n2_ := Aside0.mk (blk_below (g := gb170) (o := .cells #[.int .i64 a0_0, .int .i64 a0_1] 23 (0, 0)) (by (with_reducible repeat (first | refine blk_drewN ?_ _ | refine blk_drew ?_ | refine blk_alloc ?_ _)); exact BK170.out) hb); have n3_ := Aside0.mk (below_step (by repeat (first | (with_reducible first | exact HB.out | apply below_alloc | apply pw_below_drewN | apply below_drew1 | refine below_set ?_ GE170.out) | exact HB.out)) hb); clear HO175; clear BK170; clear HB; have HO175 := n0_; have HO184 := n1_; have BK170 := n2_; have HB := n3_; clear n0_ n1_ n2_ n3_; (try clear hb); (try clear hb2); (try clear hk); (try clear hi); (try clear ho0); obtain ⟨Ao26, co26, eo26⟩ := Kd.R_slice HO175.out; subst eo26; obtain ⟨Ao27, co27, eo27⟩ := Kd.R_slice HO184.out; subst eo27) | ((with_reducible refine gate_callee (f := 22) rfl ?_); refine goesL_ (some 66) rfl rfl Try.func22 (by kernel_rfl) rfl #[.slice Ao26 t173.length co26, .slice Ao27 t182.length co27] rfl (by (try simp only [List.map_toArray, List.map_cons, List.map_nil]); first | done | rfl | (simp only [List.length_drop, List.length_take]; rfl)) ?_; (with_reducible refine (galloonlaw03_ints.calls k _ _ t173 _ _ t182 false _ ?side1 ?side2 ?side3 ?side4 A18.out).mono ?_); (case side1 => repeat (first | exact (Kd.R_reads' HO175.out).2.2 | (with_reducible refine Kd.C_alloc ?_ _) | (with_reducible refine Kd.C_drewN ?_ _) | (with_reducible refine Kd.C_drew ?_))); (case side2 => exact (Kd.R_reads' HO175.out).2.1); (case side3 => repeat (first | exact (Kd.R_reads' HO184.out).2.2 | (with_reducible refine Kd.C_alloc ?_ _) | (with_reducible refine Kd.C_drewN ?_ _) | (with_reducible refine Kd.C_drew ?_))); (case side4 => exact (Kd.R_reads' HO184.out).2.1); rintro e w' ⟨rfl, ⟨nd, rfl⟩⟩; refine ⟨_, rfl, ?_⟩))
        go_meet
        case rel => exact ⟨_, (true), (by first | rfl | (simp; done) | (simp [*]; done)), H', ⟨by first | omega | exact Nat.le_refl _⟩, ⟨by (with_reducible repeat (first | refine blk_drewN ?_ _ | refine blk_drew ?_ | refine blk_alloc ?_ _)); exact BK170.out⟩, ⟨by repeat (first | (with_reducible first | exact HB.out | apply below_alloc | apply pw_below_drewN | apply below_drew1 | refine below_set ?_ GE170.out) | exact HB.out)⟩⟩
    case rest =>
      clear HC7
      try clear c1
      try clear c2
      try clear p2
      try clear c3
      try clear c6
      try clear c17
      try clear c18
      try clear c19
      try clear c20
      try clear c22
      try clear c23
      try clear hcz11_0
      try clear hcz11_1
      try clear hcz13_0
      try clear hcz13_1
      try clear hcz15_0
      try clear hcz15_1
      try clear hcz20_0
      try clear hcz20_1
      try clear hcz24_0
      try clear hcz24_1
      try clear hcz9_0
      try clear hcz9_1
      try clear hfz11_0
      try clear hfz11_1
      try clear hfz13_0
      try clear hfz13_1
      try clear hfz15_0
      try clear hfz15_1
      try clear hfz20_0
      try clear hfz20_1
      try clear hfz24_0
      try clear hfz24_1
      try clear hfz9_0
      try clear hfz9_1
      obtain ⟨kq, x71_6, rfl, HA, HJ6, BK170, HB⟩ := hcut
      cases kq with
      | zero => exact absurd HA.out (by simp [galloonlaw03_YardPaths.j0])
      | succ kj6 =>
        have H := HA.out
        clear HA
        simp only [galloonlaw03_YardPaths.j0] at H
        by_cases c28 : x71_6 = true
        · subst c28
          have H1 : (some false) = some r := by rw [if_pos rfl] at H; exact H
          clear H
          have H := H1
          clear H1
          obtain rfl := Option.some.inj H
          exact absurd hr.out (by decide)
        · replace c28 := Bool.eq_false_iff.mpr c28
          subst c28
          have H1 : (if a0_1 > 1000 then (if t177 = 0 then (if t178 = 0 then (if t179 = 2 then (galloonlaw03_YardPaths.j1 kj6 t171 t172 a0_0 a0_1) else (some false)) else (some false)) else (some false)) else ((galloonref03_Saw.f kj6 a0_0 a0_1).bind fun bt186 => (if t177 = bt186.1 then (if t178 = bt186.2 then (if t179 = 0 then (galloonlaw03_YardPaths.j1 kj6 t171 t172 a0_0 a0_1) else (some false)) else (some false)) else (some false)))) = some r := by rw [if_neg (show ¬ (false = true) by decide)] at H; exact H
          clear H
          have H := H1
          clear H1
          have HC29 := Aside0.mk H
          clear H
          have hcz30_0 : wc.cell? ⟨gb170, 0, none⟩ = some (.int .i64 a0_0) := (blk_cell BK170.out 0).trans rfl
          have hcz30_1 : wc.cell? ⟨gb170, 1, none⟩ = some (.int .i64 a0_1) := (blk_cell BK170.out 1).trans rfl
          have hfz30_0 := blk_frozen BK170.out 0
          have hfz30_1 := blk_frozen BK170.out 1
          go_upto_if 74 with (fail)
          go_cut [] (fun wc => ∃ (kq : Nat), Aside0 (galloonlaw03_YardPaths.j1 kq t171 t172 a0_0 a0_1 = some r) ∧ Aside0 (kq ≤ kj6) ∧ Aside0 (wc.heap[gb170]? = some (.cells #[.int .i64 a0_0, .int .i64 a0_1] 23 (0, 0))) ∧ Aside0 (Below w.heap.size w wc))
          case first =>
            have H := HC29.out
            clear HC29
            by_cases c31 : a0_1 > 1000
            · rw [if_pos c31] at H
              have c31b0 : decide (1000 < a0_1) = true := decide_eq_true c31
              clear c31
              (first | rw [c31b0] | (simp only [i64_w, i32_w]; rw [c31b0]) | skip)
              by_cases c32 : t177 = 0
              · rw [if_pos c32] at H
                have c32b0 : (t177 == 0) = true := beq_iff_eq.mpr c32
                have c32b1 : (t177 != 0) = false := bne_eq_false_iff_eq.mpr c32
                clear c32
                by_cases c33 : t178 = 0
                · rw [if_pos c33] at H
                  have c33b0 : (t178 == 0) = true := beq_iff_eq.mpr c33
                  have c33b1 : (t178 != 0) = false := bne_eq_false_iff_eq.mpr c33
                  clear c33
                  by_cases c34 : t179 = 2
                  · rw [if_pos c34] at H
                    have c34b0 : (t179 == 2) = true := beq_iff_eq.mpr c34
                    have c34b1 : (t179 != 2) = false := bne_eq_false_iff_eq.mpr c34
                    clear c34
                    have H' := Aside0.mk H
                    clear H
                    go_wp2
                    go_meet
                    case rel => exact ⟨_, H', ⟨by have := HJ6.out; first | omega | exact Nat.le_refl _⟩, ⟨by (with_reducible repeat (first | refine blk_drewN ?_ _ | refine blk_drew ?_ | refine blk_alloc ?_ _)); exact BK170.out⟩, ⟨by repeat (first | (with_reducible first | exact HB.out | apply below_alloc | apply pw_below_drewN | apply below_drew1 | refine below_set ?_ GE170.out) | exact HB.out)⟩⟩
                  · rw [if_neg c34] at H
                    have c34b0 : (t179 == 2) = false := beq_eq_false_iff_ne.mpr c34
                    have c34b1 : (t179 != 2) = true := bne_iff_ne.mpr c34
                    obtain rfl := Option.some.inj H
                    exact absurd hr.out (by decide)
                · rw [if_neg c33] at H
                  have c33b0 : (t178 == 0) = false := beq_eq_false_iff_ne.mpr c33
                  have c33b1 : (t178 != 0) = true := bne_iff_ne.mpr c33
                  obtain rfl := Option.some.inj H
                  exact absurd hr.out (by decide)
              · rw [if_neg c32] at H
                have c32b0 : (t177 == 0) = false := beq_eq_false_iff_ne.mpr c32
                have c32b1 : (t177 != 0) = true := bne_iff_ne.mpr c32
                obtain rfl := Option.some.inj H
                exact absurd hr.out (by decide)
            · rw [if_neg c31] at H
              have c31b0 : decide (1000 < a0_1) = false := decide_eq_false c31
              clear c31
              (first | rw [c31b0] | (simp only [i64_w, i32_w]; rw [c31b0]) | skip)
              replace H := Option.bind_eq_some_iff.mp H
              obtain ⟨⟨t186, t187⟩, A350, H⟩ := H
              replace H : (if t177 = t186 then (if t178 = t187 then (if t179 = 0 then (galloonlaw03_YardPaths.j1 kj6 t171 t172 a0_0 a0_1) else (some false)) else (some false)) else (some false)) = some r := H
              have A35 := Aside0.mk A350
              clear A350
              by_cases c36 : t177 = t186
              · rw [if_pos c36] at H
                have c36b0 : (t177 == t186) = true := beq_iff_eq.mpr c36
                have c36b1 : (t177 != t186) = false := bne_eq_false_iff_eq.mpr c36
                clear c36
                by_cases c37 : t178 = t187
                · rw [if_pos c37] at H
                  have c37b0 : (t178 == t187) = true := beq_iff_eq.mpr c37
                  have c37b1 : (t178 != t187) = false := bne_eq_false_iff_eq.mpr c37
                  clear c37
                  by_cases c38 : t179 = 0
                  · rw [if_pos c38] at H
                    have c38b0 : (t179 == 0) = true := beq_iff_eq.mpr c38
                    have c38b1 : (t179 != 0) = false := bne_eq_false_iff_eq.mpr c38
                    clear c38
                    have H' := Aside0.mk H
                    clear H
                    have hcz39_0 : wc.cell? ⟨gb170, 0, none⟩ = some (.int .i64 a0_0) := (blk_cell BK170.out 0).trans rfl
                    have hcz39_1 : wc.cell? ⟨gb170, 1, none⟩ = some (.int .i64 a0_1) := (blk_cell BK170.out 1).trans rfl
                    have hfz39_0 := blk_frozen BK170.out 0
                    have hfz39_1 := blk_frozen BK170.out 1
                    go_wp2_with (first | ((with_reducible refine gate_callee (f := 24) rfl ?_); refine goesL_ (some 87) rfl rfl Try.func24 (by kernel_rfl) rfl #[.agg #[.int .i64 a0_0, .int .i64 a0_1]] rfl (by (try simp only [List.map_toArray, List.map_cons, List.map_nil]); first | done | rfl | (simp only [List.length_drop, List.length_take]; rfl)) ?_; (with_reducible refine (galloonref03_Saw.calls kj6 a0_0 a0_1 t186 t187 _ A35.out).mono ?_); rintro e w40 ⟨rfl, hb⟩; refine ⟨_, rfl, ?_⟩; have n0_ := Aside0.mk (blk_below (g := gb170) (o := .cells #[.int .i64 a0_0, .int .i64 a0_1] 23 (0, 0)) (by (with_reducible repeat (first | refine blk_drewN ?_ _ | refine blk_drew ?_ | refine blk_alloc ?_ _)); exact BK170.out) hb); have n1_ := Aside0.mk (below_step (by repeat (first | (with_reducible first | exact HB.out | apply below_alloc | apply pw_below_drewN | apply below_drew1 | refine below_set ?_ GE170.out) | exact HB.out)) hb); clear BK170; clear HB; have BK170 := n0_; have HB := n1_; clear n0_ n1_; (try clear hb); (try clear hb2); (try clear hk); (try clear hi)))
                    go_meet
                    case rel => exact ⟨_, H', ⟨by have := HJ6.out; first | omega | exact Nat.le_refl _⟩, ⟨by (with_reducible repeat (first | refine blk_drewN ?_ _ | refine blk_drew ?_ | refine blk_alloc ?_ _)); exact BK170.out⟩, ⟨by repeat (first | (with_reducible first | exact HB.out | apply below_alloc | apply pw_below_drewN | apply below_drew1 | refine below_set ?_ GE170.out) | exact HB.out)⟩⟩
                  · rw [if_neg c38] at H
                    have c38b0 : (t179 == 0) = false := beq_eq_false_iff_ne.mpr c38
                    have c38b1 : (t179 != 0) = true := bne_iff_ne.mpr c38
                    obtain rfl := Option.some.inj H
                    exact absurd hr.out (by decide)
                · rw [if_neg c37] at H
                  have c37b0 : (t178 == t187) = false := beq_eq_false_iff_ne.mpr c37
                  have c37b1 : (t178 != t187) = true := bne_iff_ne.mpr c37
                  obtain rfl := Option.some.inj H
                  exact absurd hr.out (by decide)
              · rw [if_neg c36] at H
                have c36b0 : (t177 == t186) = false := beq_eq_false_iff_ne.mpr c36
                have c36b1 : (t177 != t186) = true := bne_iff_ne.mpr c36
                obtain rfl := Option.some.inj H
                exact absurd hr.out (by decide)
          case rest =>
            clear HC29
            try clear c1
            try clear c2
            try clear p2
            try clear c3
            try clear c6
            try clear c17
            try clear c18
            try clear c19
            try clear c20
            try clear c22
            try clear c23
            try clear c24
            try clear c28
            try clear c31
            try clear c31b0
            try clear c32
            try clear c32b0
            try clear c32b1
            try clear c33
            try clear c33b0
            try clear c33b1
            try clear c34
            try clear c34b0
            try clear c34b1
            try clear c36
            try clear c36b0
            try clear c36b1
            try clear c37
            try clear c37b0
            try clear c37b1
            try clear c38
            try clear c38b0
            try clear c38b1
            try clear hcz11_0
            try clear hcz11_1
            try clear hcz13_0
            try clear hcz13_1
            try clear hcz15_0
            try clear hcz15_1
            try clear hcz20_0
            try clear hcz20_1
            try clear hcz24_0
            try clear hcz24_1
            try clear hcz30_0
            try clear hcz30_1
            try clear hcz39_0
            try clear hcz39_1
            try clear hcz9_0
            try clear hcz9_1
            try clear hfz11_0
            try clear hfz11_1
            try clear hfz13_0
            try clear hfz13_1
            try clear hfz15_0
            try clear hfz15_1
            try clear hfz20_0
            try clear hfz20_1
            try clear hfz24_0
            try clear hfz24_1
            try clear hfz30_0
            try clear hfz30_1
            try clear hfz39_0
            try clear hfz39_1
            try clear hfz9_0
            try clear hfz9_1
            try clear p2
            obtain ⟨kq, HA, HJ28, BK170, HB⟩ := hcut
            cases kq with
            | zero => exact absurd HA.out (by simp [galloonlaw03_YardPaths.j1])
            | succ kj28 =>
              have H := HA.out
              clear HA
              simp only [galloonlaw03_YardPaths.j1] at H
              by_cases c41 : a0_1 = 1
              · rw [if_pos c41] at H
                have c41b0 : (a0_1 == 1) = true := beq_iff_eq.mpr c41
                have c41b1 : (a0_1 != 1) = false := bne_eq_false_iff_eq.mpr c41
                clear c41
                by_cases c42 : t171.toList = ([] : List UInt8)
                · rw [if_pos c42] at H
                  have c42b0 : (t171.toList == ([] : List UInt8)) = true := beq_iff_eq.mpr c42
                  have c42b1 : (t171.toList != ([] : List UInt8)) = false := bne_eq_false_iff_eq.mpr c42
                  clear c42
                  by_cases c43 : t172 = 2
                  · rw [if_pos c43] at H
                    have c43b0 : (t172 == 2) = true := beq_iff_eq.mpr c43
                    have c43b1 : (t172 != 2) = false := bne_eq_false_iff_eq.mpr c43
                    clear c43
                    replace H := Option.bind_eq_some_iff.mp H
                    obtain ⟨t188, A440, H⟩ := H
                    replace H : (some t188) = some r := H
                    have A44 := Aside0.mk A440
                    clear A440
                    obtain rfl := Option.some.inj H
                    have hcz45_0 : wc.cell? ⟨gb170, 0, none⟩ = some (.int .i64 a0_0) := (blk_cell BK170.out 0).trans rfl
                    have hcz45_1 : wc.cell? ⟨gb170, 1, none⟩ = some (.int .i64 a0_1) := (blk_cell BK170.out 1).trans rfl
                    have hfz45_0 := blk_frozen BK170.out 0
                    have hfz45_1 := blk_frozen BK170.out 1
                    go_wp2_with (first | (go_at_call 21; (with_reducible refine (galloonlaw03_awake.calls kj28  t188 _ A44.out).mono ?_); rintro e w46 ⟨rfl, hb⟩; have n0_ := Aside0.mk (blk_below (g := gb170) (o := .cells #[.int .i64 a0_0, .int .i64 a0_1] 23 (0, 0)) (by (with_reducible repeat (first | refine blk_drewN ?_ _ | refine blk_drew ?_ | refine blk_alloc ?_ _)); exact BK170.out) hb); have n1_ := Aside0.mk (below_step (by repeat (first | (with_reducible first | exact HB.out | apply below_alloc | apply pw_below_drewN | apply below_drew1 | refine below_set ?_ GE170.out) | exact HB.out)) hb); clear BK170; clear HB; have BK170 := n0_; have HB := n1_; clear n0_ n1_; (try clear hb); (try clear hb2); (try clear hk); (try clear hi)))
                    go_ret
                    exact ⟨by first | rfl | (simp [errW_none, errW_some] <;> rfl) | (simp [*, errW_none, errW_some] <;> rfl), by repeat (first | (with_reducible first | exact HB.out | apply below_alloc | apply pw_below_drewN | apply below_drew1 | refine below_set ?_ GE170.out) | exact HB.out)⟩
                  · rw [if_neg c43] at H
                    have c43b0 : (t172 == 2) = false := beq_eq_false_iff_ne.mpr c43
                    have c43b1 : (t172 != 2) = true := bne_iff_ne.mpr c43
                    obtain rfl := Option.some.inj H
                    exact absurd hr.out (by decide)
                · rw [if_neg c42] at H
                  have c42b0 : (t171.toList == ([] : List UInt8)) = false := beq_eq_false_iff_ne.mpr c42
                  have c42b1 : (t171.toList != ([] : List UInt8)) = true := bne_iff_ne.mpr c42
                  obtain rfl := Option.some.inj H
                  exact absurd hr.out (by decide)
              · rw [if_neg c41] at H
                have c41b0 : (a0_1 == 1) = false := beq_eq_false_iff_ne.mpr c41
                have c41b1 : (a0_1 != 1) = true := bne_iff_ne.mpr c41
                replace H := Option.bind_eq_some_iff.mp H
                obtain ⟨⟨t189, t190⟩, A470, H⟩ := H
                replace H : (if t190 = true then (if t171.toList = t189.toList then (if t172 = 0 then ((galloonlaw03_awake.f kj28).bind fun t191 => (some t191)) else (some false)) else (some false)) else (if t171.toList = ([] : List UInt8) then (if t172 = 5 then ((galloonlaw03_awake.f kj28).bind fun t192 => (some t192)) else (some false)) else (some false))) = some r := H
                have A47 := Aside0.mk A470
                clear A470
                by_cases c48 : t190 = true
                · subst c48
                  have H1 : (if t171.toList = t189.toList then (if t172 = 0 then ((galloonlaw03_awake.f kj28).bind fun t191 => (some t191)) else (some false)) else (some false)) = some r := by rw [if_pos rfl] at H; exact H
                  clear H
                  have H := H1
                  clear H1
                  by_cases c49 : t171.toList = t189.toList
                  · rw [if_pos c49] at H
                    have c49b0 : (t171.toList == t189.toList) = true := beq_iff_eq.mpr c49
                    have c49b1 : (t171.toList != t189.toList) = false := bne_eq_false_iff_eq.mpr c49
                    clear c49
                    by_cases c50 : t172 = 0
                    · rw [if_pos c50] at H
                      have c50b0 : (t172 == 0) = true := beq_iff_eq.mpr c50
                      have c50b1 : (t172 != 0) = false := bne_eq_false_iff_eq.mpr c50
                      clear c50
                      replace H := Option.bind_eq_some_iff.mp H
                      obtain ⟨t191, A510, H⟩ := H
                      replace H : (some t191) = some r := H
                      have A51 := Aside0.mk A510
                      clear A510
                      obtain rfl := Option.some.inj H
                      have hcz52_0 : wc.cell? ⟨gb170, 0, none⟩ = some (.int .i64 a0_0) := (blk_cell BK170.out 0).trans rfl
                      have hcz52_1 : wc.cell? ⟨gb170, 1, none⟩ = some (.int .i64 a0_1) := (blk_cell BK170.out 1).trans rfl
                      have hfz52_0 := blk_frozen BK170.out 0
                      have hfz52_1 := blk_frozen BK170.out 1
                      go_wp2_with (first | ((with_reducible refine gate_callee (f := 25) rfl ?_); refine goesL_ (some 116) rfl rfl Try.func25 (by kernel_rfl) rfl #[.agg #[.int .i64 a0_0, .int .i64 a0_1]] rfl (by (try simp only [List.map_toArray, List.map_cons, List.map_nil]); first | done | rfl | (simp only [List.length_drop, List.length_take]; rfl)) ?_; (with_reducible refine (galloonref03_Path.calls kj28 a0_0 a0_1 t189 true _ A47.out).mono ?_); rintro e w53 ⟨rfl, hb⟩; refine ⟨_, rfl, ?_⟩; have n0_ := Aside0.mk (blk_below (g := gb170) (o := .cells #[.int .i64 a0_0, .int .i64 a0_1] 23 (0, 0)) (by (with_reducible repeat (first | refine blk_drewN ?_ _ | refine blk_drew ?_ | refine blk_alloc ?_ _)); exact BK170.out) hb); have n1_ := Aside0.mk (below_step (by repeat (first | (with_reducible first | exact HB.out | apply below_alloc | apply pw_below_drewN | apply below_drew1 | refine below_set ?_ GE170.out) | exact HB.out)) hb); clear BK170; clear HB; have BK170 := n0_; have HB := n1_; clear n0_ n1_; (try clear hb); (try clear hb2); (try clear hk); (try clear hi)) | (go_at_call 21; (with_reducible refine (galloonlaw03_awake.calls kj28  t191 _ A51.out).mono ?_); rintro e w54 ⟨rfl, hb⟩; have n0_ := Aside0.mk (blk_below (g := gb170) (o := .cells #[.int .i64 a0_0, .int .i64 a0_1] 23 (0, 0)) (by (with_reducible repeat (first | refine blk_drewN ?_ _ | refine blk_drew ?_ | refine blk_alloc ?_ _)); exact BK170.out) hb); have n1_ := Aside0.mk (below_step (by repeat (first | (with_reducible first | exact HB.out | apply below_alloc | apply pw_below_drewN | apply below_drew1 | refine below_set ?_ GE170.out) | exact HB.out)) hb); clear BK170; clear HB; have BK170 := n0_; have HB := n1_; clear n0_ n1_; (try clear hb); (try clear hb2); (try clear hk); (try clear hi)))
                      go_ret
                      exact ⟨by first | rfl | (simp [errW_none, errW_some] <;> rfl) | (simp [*, errW_none, errW_some] <;> rfl), by repeat (first | (with_reducible first | exact HB.out | apply below_alloc | apply pw_below_drewN | apply below_drew1 | refine below_set ?_ GE170.out) | exact HB.out)⟩
                    · rw [if_neg c50] at H
                      have c50b0 : (t172 == 0) = false := beq_eq_false_iff_ne.mpr c50
                      have c50b1 : (t172 != 0) = true := bne_iff_ne.mpr c50
                      obtain rfl := Option.some.inj H
                      exact absurd hr.out (by decide)
                  · rw [if_neg c49] at H
                    have c49b0 : (t171.toList == t189.toList) = false := beq_eq_false_iff_ne.mpr c49
                    have c49b1 : (t171.toList != t189.toList) = true := bne_iff_ne.mpr c49
                    obtain rfl := Option.some.inj H
                    exact absurd hr.out (by decide)
                · replace c48 := Bool.eq_false_iff.mpr c48
                  subst c48
                  have H1 : (if t171.toList = ([] : List UInt8) then (if t172 = 5 then ((galloonlaw03_awake.f kj28).bind fun t192 => (some t192)) else (some false)) else (some false)) = some r := by rw [if_neg (show ¬ (false = true) by decide)] at H; exact H
                  clear H
                  have H := H1
                  clear H1
                  by_cases c55 : t171.toList = ([] : List UInt8)
                  · rw [if_pos c55] at H
                    have c55b0 : (t171.toList == ([] : List UInt8)) = true := beq_iff_eq.mpr c55
                    have c55b1 : (t171.toList != ([] : List UInt8)) = false := bne_eq_false_iff_eq.mpr c55
                    clear c55
                    by_cases c56 : t172 = 5
                    · rw [if_pos c56] at H
                      have c56b0 : (t172 == 5) = true := beq_iff_eq.mpr c56
                      have c56b1 : (t172 != 5) = false := bne_eq_false_iff_eq.mpr c56
                      clear c56
                      replace H := Option.bind_eq_some_iff.mp H
                      obtain ⟨t192, A570, H⟩ := H
                      replace H : (some t192) = some r := H
                      have A57 := Aside0.mk A570
                      clear A570
                      obtain rfl := Option.some.inj H
                      have hcz58_0 : wc.cell? ⟨gb170, 0, none⟩ = some (.int .i64 a0_0) := (blk_cell BK170.out 0).trans rfl
                      have hcz58_1 : wc.cell? ⟨gb170, 1, none⟩ = some (.int .i64 a0_1) := (blk_cell BK170.out 1).trans rfl
                      have hfz58_0 := blk_frozen BK170.out 0
                      have hfz58_1 := blk_frozen BK170.out 1
                      go_wp2_with (first | ((with_reducible refine gate_callee (f := 25) rfl ?_); refine goesL_ (some 116) rfl rfl Try.func25 (by kernel_rfl) rfl #[.agg #[.int .i64 a0_0, .int .i64 a0_1]] rfl (by (try simp only [List.map_toArray, List.map_cons, List.map_nil]); first | done | rfl | (simp only [List.length_drop, List.length_take]; rfl)) ?_; (with_reducible refine (galloonref03_Path.calls kj28 a0_0 a0_1 t189 false _ A47.out).mono ?_); rintro e w59 ⟨rfl, hb⟩; refine ⟨_, rfl, ?_⟩; have n0_ := Aside0.mk (blk_below (g := gb170) (o := .cells #[.int .i64 a0_0, .int .i64 a0_1] 23 (0, 0)) (by (with_reducible repeat (first | refine blk_drewN ?_ _ | refine blk_drew ?_ | refine blk_alloc ?_ _)); exact BK170.out) hb); have n1_ := Aside0.mk (below_step (by repeat (first | (with_reducible first | exact HB.out | apply below_alloc | apply pw_below_drewN | apply below_drew1 | refine below_set ?_ GE170.out) | exact HB.out)) hb); clear BK170; clear HB; have BK170 := n0_; have HB := n1_; clear n0_ n1_; (try clear hb); (try clear hb2); (try clear hk); (try clear hi)) | (go_at_call 21; (with_reducible refine (galloonlaw03_awake.calls kj28  t192 _ A57.out).mono ?_); rintro e w60 ⟨rfl, hb⟩; have n0_ := Aside0.mk (blk_below (g := gb170) (o := .cells #[.int .i64 a0_0, .int .i64 a0_1] 23 (0, 0)) (by (with_reducible repeat (first | refine blk_drewN ?_ _ | refine blk_drew ?_ | refine blk_alloc ?_ _)); exact BK170.out) hb); have n1_ := Aside0.mk (below_step (by repeat (first | (with_reducible first | exact HB.out | apply below_alloc | apply pw_below_drewN | apply below_drew1 | refine below_set ?_ GE170.out) | exact HB.out)) hb); clear BK170; clear HB; have BK170 := n0_; have HB := n1_; clear n0_ n1_; (try clear hb); (try clear hb2); (try clear hk); (try clear hi)))
                      go_ret
                      exact ⟨by first | rfl | (simp [errW_none, errW_some] <;> rfl) | (simp [*, errW_none, errW_some] <;> rfl), by repeat (first | (with_reducible first | exact HB.out | apply below_alloc | apply pw_below_drewN | apply below_drew1 | refine below_set ?_ GE170.out) | exact HB.out)⟩
                    · rw [if_neg c56] at H
                      have c56b0 : (t172 == 5) = false := beq_eq_false_iff_ne.mpr c56
                      have c56b1 : (t172 != 5) = true := bne_iff_ne.mpr c56
                      obtain rfl := Option.some.inj H
                      exact absurd hr.out (by decide)
                  · rw [if_neg c55] at H
                    have c55b0 : (t171.toList == ([] : List UInt8)) = false := beq_eq_false_iff_ne.mpr c55
                    have c55b1 : (t171.toList != ([] : List UInt8)) = true := bne_iff_ne.mpr c55
                    obtain rfl := Option.some.inj H
                    exact absurd hr.out (by decide)
  · replace c6 := Bool.eq_false_iff.mpr c6
    subst c6
    have H1 : (if t171.toList = ([] : List UInt8) then (if t172 = 2 then (if (t173.length : Int) = 0 then (if t176 = 2 then (if t177 = 0 then (if t178 = 0 then (if t179 = 2 then ((galloonlaw03_awake.f k).bind fun t181 => (some t181)) else (some false)) else (some false)) else (some false)) else (some false)) else (some false)) else (some false)) else (some false)) = some r := by rw [if_neg (show ¬ (false = true) by decide)] at H; exact H
    clear H
    have H := H1
    clear H1
    by_cases c61 : t171.toList = ([] : List UInt8)
    · rw [if_pos c61] at H
      have c61b0 : (t171.toList == ([] : List UInt8)) = true := beq_iff_eq.mpr c61
      have c61b1 : (t171.toList != ([] : List UInt8)) = false := bne_eq_false_iff_eq.mpr c61
      clear c61
      by_cases c62 : t172 = 2
      · rw [if_pos c62] at H
        have c62b0 : (t172 == 2) = true := beq_iff_eq.mpr c62
        have c62b1 : (t172 != 2) = false := bne_eq_false_iff_eq.mpr c62
        clear c62
        by_cases c63 : (t173.length : Int) = 0
        · rw [if_pos c63] at H
          have c63b0 : ((t173.length : Int) == 0) = true := beq_iff_eq.mpr c63
          have c63b1 : ((t173.length : Int) != 0) = false := bne_eq_false_iff_eq.mpr c63
          clear c63
          by_cases c64 : t176 = 2
          · rw [if_pos c64] at H
            have c64b0 : (t176 == 2) = true := beq_iff_eq.mpr c64
            have c64b1 : (t176 != 2) = false := bne_eq_false_iff_eq.mpr c64
            clear c64
            by_cases c65 : t177 = 0
            · rw [if_pos c65] at H
              have c65b0 : (t177 == 0) = true := beq_iff_eq.mpr c65
              have c65b1 : (t177 != 0) = false := bne_eq_false_iff_eq.mpr c65
              clear c65
              by_cases c66 : t178 = 0
              · rw [if_pos c66] at H
                have c66b0 : (t178 == 0) = true := beq_iff_eq.mpr c66
                have c66b1 : (t178 != 0) = false := bne_eq_false_iff_eq.mpr c66
                clear c66
                by_cases c67 : t179 = 2
                · rw [if_pos c67] at H
                  have c67b0 : (t179 == 2) = true := beq_iff_eq.mpr c67
                  have c67b1 : (t179 != 2) = false := bne_eq_false_iff_eq.mpr c67
                  clear c67
                  replace H := Option.bind_eq_some_iff.mp H
                  obtain ⟨t181, A680, H⟩ := H
                  replace H : (some t181) = some r := H
                  have A68 := Aside0.mk A680
                  clear A680
                  obtain rfl := Option.some.inj H
                  go_enter Try.func3, Try.ntmps3
                  go_wp2_with (first | ((with_reducible refine gate_dst (N := 1) rfl ?_); (try (refine gate_guard (by rfl) ?_; dsimp only)); refine box_event ?hg (N := 1) ?hd (cs := #[.int .i64 a0_0, .int .i64 a0_1]) (t := 23) ?hr ?_; (case hd => rfl); (case hg => rfl); (case hr => first | (go_simp; done) | (go_simp; rfl)); intro gb170 hg w69 hbox hb; have n0_ := Aside0.mk (below_step (by repeat (first | (with_reducible first | exact HB.out | apply below_alloc | apply pw_below_drewN | apply below_drew1) | exact HB.out)) hb); have n1_ := Aside0.mk (hbox); have n2_ := Aside0.mk ((by rw [hg]; exact (below_size (by repeat (first | (with_reducible first | exact HB.out | apply below_alloc | apply pw_below_drewN | apply below_drew1) | exact HB.out))) : w.heap.size ≤ gb170)); have n3_ := Aside0.mk ((by rw [hg]; exact (below_size (by repeat (first | (with_reducible first | exact HB.out | apply below_alloc | apply pw_below_drewN | apply below_drew1) | exact HB.out))) : w.heap.size ≤ gb170)); clear HB; have HB := n0_; have BK170 := n1_; have GW170 := n2_; have GE170 := n3_; clear n0_ n1_ n2_ n3_; clear hb hbox hg; have hcz70_0 : w69.cell? ⟨gb170, 0, none⟩ = some (.int .i64 a0_0) := (blk_cell BK170.out 0).trans rfl; have hcz70_1 : w69.cell? ⟨gb170, 1, none⟩ = some (.int .i64 a0_1) := (blk_cell BK170.out 1).trans rfl; have hfz70_0 := blk_frozen BK170.out 0; have hfz70_1 := blk_frozen BK170.out 1) | ((with_reducible refine gate_callee (f := 17) rfl ?_); refine goesL_ (some 16) rfl rfl Try.func17 (by kernel_rfl) rfl #[.agg #[.int .i64 a0_0, .int .i64 a0_1]] rfl (by (try simp only [List.map_toArray, List.map_cons, List.map_nil]); first | done | rfl | (simp only [List.length_drop, List.length_take]; rfl)) ?_; (with_reducible refine (yard_Path.calls k a0_0 a0_1 t171 t172 _ A2.out).mono ?_); rintro e w71 ⟨rfl, hb⟩; refine ⟨_, rfl, ?_⟩; have n0_ := Aside0.mk (blk_below (g := gb170) (o := .cells #[.int .i64 a0_0, .int .i64 a0_1] 23 (0, 0)) (by (with_reducible repeat (first | refine blk_drewN ?_ _ | refine blk_drew ?_ | refine blk_alloc ?_ _)); exact BK170.out) hb); have n1_ := Aside0.mk (below_step (by repeat (first | (with_reducible first | exact HB.out | apply below_alloc | apply pw_below_drewN | apply below_drew1 | refine below_set ?_ GE170.out) | exact HB.out)) hb); clear BK170; clear HB; have BK170 := n0_; have HB := n1_; clear n0_ n1_; (try clear hb); (try clear hb2); (try clear hk); (try clear hi); have hcz72_0 : w71.cell? ⟨gb170, 0, none⟩ = some (.int .i64 a0_0) := (blk_cell BK170.out 0).trans rfl; have hcz72_1 : w71.cell? ⟨gb170, 1, none⟩ = some (.int .i64 a0_1) := (blk_cell BK170.out 1).trans rfl; have hfz72_0 := blk_frozen BK170.out 0; have hfz72_1 := blk_frozen BK170.out 1) | ((with_reducible refine gate_callee (f := 18) rfl ?_); refine goesL_ (some 21) rfl rfl Try.func18 (by kernel_rfl) rfl #[.agg #[.int .i64 a0_0, .int .i64 a0_1]] rfl (by (try simp only [List.map_toArray, List.map_cons, List.map_nil]); first | done | rfl | (simp only [List.length_drop, List.length_take]; rfl)) ?_; (with_reducible refine (yard_Quotients.calls k a0_0 a0_1 t173 t176 _ A3.out).mono ?_); rintro e w73 ⟨v174, rfl, ho0, hb⟩; refine ⟨_, rfl, ?_⟩; have n0_ := Aside0.mk (Kd.R_lower ho0 (below_size (by repeat (first | (with_reducible first | exact HB.out | apply below_alloc | apply pw_below_drewN | apply below_drew1 | refine below_set ?_ GE170.out) | exact HB.out)))); have n1_ := Aside0.mk (blk_below (g := gb170) (o := .cells #[.int .i64 a0_0, .int .i64 a0_1] 23 (0, 0)) (by (with_reducible repeat (first | refine blk_drewN ?_ _ | refine blk_drew ?_ | refine blk_alloc ?_ _)); exact BK170.out) hb); have n2_ := Aside0.mk (below_step (by repeat (first | (with_reducible first | exact HB.out | apply below_alloc | apply pw_below_drewN | apply below_drew1 | refine below_set ?_ GE170.out) | exact HB.out)) hb); clear BK170; clear HB; have HO175 := n0_; have BK170 := n1_; have HB := n2_; clear n0_ n1_ n2_; (try clear hb); (try clear hb2); (try clear hk); (try clear hi); (try clear ho0); have hcz74_0 : w73.cell? ⟨gb170, 0, none⟩ = some (.int .i64 a0_0) := (blk_cell BK170.out 0).trans rfl; have hcz74_1 : w73.cell? ⟨gb170, 1, none⟩ = some (.int .i64 a0_1) := (blk_cell BK170.out 1).trans rfl; have hfz74_0 := blk_frozen BK170.out 0; have hfz74_1 := blk_frozen BK170.out 1) | ((with_reducible refine gate_callee (f := 19) rfl ?_); refine goesL_ (some 26) rfl rfl Try.func19 (by kernel_rfl) rfl #[.agg #[.int .i64 a0_0, .int .i64 a0_1]] rfl (by (try simp only [List.map_toArray, List.map_cons, List.map_nil]); first | done | rfl | (simp only [List.length_drop, List.length_take]; rfl)) ?_; (with_reducible refine (yard_Saw.calls k a0_0 a0_1 t177 t178 t179 _ A4.out).mono ?_); rintro e w75 ⟨rfl, hb⟩; refine ⟨_, rfl, ?_⟩; have n0_ := Aside0.mk (Kd.R_below (by (with_reducible repeat (first | apply Kd.R_alloc | apply Kd.R_drewN | apply Kd.R_drew)); exact HO175.out) hb); have n1_ := Aside0.mk (blk_below (g := gb170) (o := .cells #[.int .i64 a0_0, .int .i64 a0_1] 23 (0, 0)) (by (with_reducible repeat (first | refine blk_drewN ?_ _ | refine blk_drew ?_ | refine blk_alloc ?_ _)); exact BK170.out) hb); have n2_ := Aside0.mk (below_step (by repeat (first | (with_reducible first | exact HB.out | apply below_alloc | apply pw_below_drewN | apply below_drew1 | refine below_set ?_ GE170.out) | exact HB.out)) hb); clear HO175; clear BK170; clear HB; have HO175 := n0_; have BK170 := n1_; have HB := n2_; clear n0_ n1_ n2_; (try clear hb); (try clear hb2); (try clear hk); (try clear hi); have hcz76_0 : w75.cell? ⟨gb170, 0, none⟩ = some (.int .i64 a0_0) := (blk_cell BK170.out 0).trans rfl; have hcz76_1 : w75.cell? ⟨gb170, 1, none⟩ = some (.int .i64 a0_1) := (blk_cell BK170.out 1).trans rfl; have hfz76_0 := blk_frozen BK170.out 0; have hfz76_1 := blk_frozen BK170.out 1) | ((with_reducible refine gate_callee (f := 20) rfl ?_); refine goesL_ (some 31) rfl rfl Try.func20 (by kernel_rfl) rfl #[.agg #[.int .i64 a0_0, .int .i64 a0_1]] rfl (by (try simp only [List.map_toArray, List.map_cons, List.map_nil]); first | done | rfl | (simp only [List.length_drop, List.length_take]; rfl)) ?_; (with_reducible refine (galloonref03_Valid.calls k a0_0 a0_1 false _ A5.out).mono ?_); rintro e w77 ⟨rfl, hb⟩; refine ⟨_, rfl, ?_⟩; have n0_ := Aside0.mk (Kd.R_below (by (with_reducible repeat (first | apply Kd.R_alloc | apply Kd.R_drewN | apply Kd.R_drew)); exact HO175.out) hb); have n1_ := Aside0.mk (blk_below (g := gb170) (o := .cells #[.int .i64 a0_0, .int .i64 a0_1] 23 (0, 0)) (by (with_reducible repeat (first | refine blk_drewN ?_ _ | refine blk_drew ?_ | refine blk_alloc ?_ _)); exact BK170.out) hb); have n2_ := Aside0.mk (below_step (by repeat (first | (with_reducible first | exact HB.out | apply below_alloc | apply pw_below_drewN | apply below_drew1 | refine below_set ?_ GE170.out) | exact HB.out)) hb); clear HO175; clear BK170; clear HB; have HO175 := n0_; have BK170 := n1_; have HB := n2_; clear n0_ n1_ n2_; (try clear hb); (try clear hb2); (try clear hk); (try clear hi); obtain ⟨Ao78, co78, eo78⟩ := Kd.R_slice HO175.out; subst eo78) | (go_at_call 21; (with_reducible refine (galloonlaw03_awake.calls k  t181 _ A68.out).mono ?_); rintro e w79 ⟨rfl, hb⟩; have n0_ := Aside0.mk (Kd.R_below (by (with_reducible repeat (first | apply Kd.R_alloc | apply Kd.R_drewN | apply Kd.R_drew)); exact HO175.out) hb); have n1_ := Aside0.mk (blk_below (g := gb170) (o := .cells #[.int .i64 a0_0, .int .i64 a0_1] 23 (0, 0)) (by (with_reducible repeat (first | refine blk_drewN ?_ _ | refine blk_drew ?_ | refine blk_alloc ?_ _)); exact BK170.out) hb); have n2_ := Aside0.mk (below_step (by repeat (first | (with_reducible first | exact HB.out | apply below_alloc | apply pw_below_drewN | apply below_drew1 | refine below_set ?_ GE170.out) | exact HB.out)) hb); clear HO175; clear BK170; clear HB; have HO175 := n0_; have BK170 := n1_; have HB := n2_; clear n0_ n1_ n2_; (try clear hb); (try clear hb2); (try clear hk); (try clear hi)))
                  go_ret
                  exact ⟨by first | rfl | (simp [errW_none, errW_some] <;> rfl) | (simp [*, errW_none, errW_some] <;> rfl), by repeat (first | (with_reducible first | exact HB.out | apply below_alloc | apply pw_below_drewN | apply below_drew1 | refine below_set ?_ GE170.out) | exact HB.out)⟩
                · rw [if_neg c67] at H
                  have c67b0 : (t179 == 2) = false := beq_eq_false_iff_ne.mpr c67
                  have c67b1 : (t179 != 2) = true := bne_iff_ne.mpr c67
                  obtain rfl := Option.some.inj H
                  exact absurd hr.out (by decide)
              · rw [if_neg c66] at H
                have c66b0 : (t178 == 0) = false := beq_eq_false_iff_ne.mpr c66
                have c66b1 : (t178 != 0) = true := bne_iff_ne.mpr c66
                obtain rfl := Option.some.inj H
                exact absurd hr.out (by decide)
            · rw [if_neg c65] at H
              have c65b0 : (t177 == 0) = false := beq_eq_false_iff_ne.mpr c65
              have c65b1 : (t177 != 0) = true := bne_iff_ne.mpr c65
              obtain rfl := Option.some.inj H
              exact absurd hr.out (by decide)
          · rw [if_neg c64] at H
            have c64b0 : (t176 == 2) = false := beq_eq_false_iff_ne.mpr c64
            have c64b1 : (t176 != 2) = true := bne_iff_ne.mpr c64
            obtain rfl := Option.some.inj H
            exact absurd hr.out (by decide)
        · rw [if_neg c63] at H
          have c63b0 : ((t173.length : Int) == 0) = false := beq_eq_false_iff_ne.mpr c63
          have c63b1 : ((t173.length : Int) != 0) = true := bne_iff_ne.mpr c63
          have c63b2 : ¬ (t173 = []) := fun h_ => c63 (by rw [h_]; rfl)
          obtain rfl := Option.some.inj H
          exact absurd hr.out (by decide)
      · rw [if_neg c62] at H
        have c62b0 : (t172 == 2) = false := beq_eq_false_iff_ne.mpr c62
        have c62b1 : (t172 != 2) = true := bne_iff_ne.mpr c62
        obtain rfl := Option.some.inj H
        exact absurd hr.out (by decide)
    · rw [if_neg c61] at H
      have c61b0 : (t171.toList == ([] : List UInt8)) = false := beq_eq_false_iff_ne.mpr c61
      have c61b1 : (t171.toList != ([] : List UInt8)) = true := bne_iff_ne.mpr c61
      obtain rfl := Option.some.inj H
      exact absurd hr.out (by decide)

/-- THE ONE PURE STATEMENT of galloonlaw03_YardPaths: yours. -/
def galloonlaw03_YardPaths.Pure : Prop := ∀ (a0_0 : Int) (a0_1 : Int), (Lit.int .i64 a0_0).wf = true → (Lit.int .i64 a0_1).wf = true → ∃ k, galloonlaw03_YardPaths.f k a0_0 a0_1 = some true
theorem galloonlaw03_YardPaths.walk (P : galloonlaw03_YardPaths.Pure) (a0_0 : Int) (a0_1 : Int) (w : World) (w0_0 : (Lit.int .i64 a0_0).wf = true) (w0_1 : (Lit.int .i64 a0_1).wf = true) :
    Calls Try.prog 3 #[.agg #[.int .i64 a0_0, .int .i64 a0_1]] w fun e w' => e = .returned (.bool true) ∧ Below w.heap.size w w' := by
  obtain ⟨k, h⟩ := P a0_0 a0_1 w0_0 w0_1
  refine (galloonlaw03_YardPaths.calls k a0_0 a0_1 true w h ⟨rfl⟩).mono ?_
  rintro e w' ⟨rfl, hd⟩
  exact ⟨rfl, hd⟩

end Go.Proofs.Ythjodhmkmjabbaa.PY
