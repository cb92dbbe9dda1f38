-- Made by the session's own driver (wip/tools/p2.py) out of the translation; Lean checks it.
import Derived.Test.YthjodhmkmjabbaaPYx0
import Derived.Test.YthjodhmkmjabbaaPYx3
import Derived.Test.YthjodhmkmjabbaaPYx7
import Derived.Test.YthjodhmkmjabbaaPYx10
namespace Go.Proofs.Ythjodhmkmjabbaa.PY
open Go.RowKit Go.Proofs.YthjodhmkmjabbaaW.PrintWords Go.Proofs.YthjodhmkmjabbaaW.PrintLast Go.Proofs.YthjodhmkmjabbaaW.PrintMore
attribute [local go_sem] max2_int min2_int max_two min_two max_three min_three max_four min_four   -- for this text's walks alone
set_option linter.unusedVariables false
set_option linter.unusedSimpArgs false

/-! ### galloonlaw03_YardSaws: function 4 -/
mutual
def galloonlaw03_YardSaws.j0 : Nat → Int → Int → Int → Int → Bool → Option (Bool)
  | 0, _, _, _, _, _ => none
  | k + 1, x3, x4, x5, x6, x85 => if x85 = true then (some false) else (if x3 < 1 then (galloonlaw03_YardSaws.j1 k x3 x4 x5 x6 true) else (galloonlaw03_YardSaws.j1 k x3 x4 x5 x6 (decide (x3 ≥ x4))))
def galloonlaw03_YardSaws.j1 : Nat → Int → Int → Int → Int → Bool → Option (Bool)
  | 0, _, _, _, _, _ => none
  | k + 1, x3, x4, x5, x6, x92 => if x92 = true then (if x5 = 0 then (if x6 = 1 then ((galloonlaw03_awake.f k).bind fun t212 => (some t212)) else (some false)) else (some false)) else (if x3 = 0 then (none) else ((yard_Saw.f k (Int.tmod x4 x3) x3).bind fun bt213 => (if bt213.2.2 = 0 then (if bt213.2.1 < 1 then (some false) else (if bt213.2.1 > (wrap64 ((wrap64 (4 * x3)) * x3)) then (some false) else (if bt213.1 > (wrap64 (x3 * x3)) then (some false) else (if bt213.1 < (wrap64 ((wrap64 (-x3)) * x3)) then (some false) else (if x6 = 0 then (none) else (if (Int.tmod (wrap64 ((wrap64 (12 * x3)) * x4)) x6) = 0 then (if bt213.2.1 = 0 then (none) else (if (Int.tmod (wrap64 ((wrap64 (12 * x3)) * x4)) bt213.2.1) = 0 then (if (wrap64 ((wrap64 ((wrap64 (Int.tdiv (wrap64 ((wrap64 (12 * x3)) * x4)) x6)) * x5)) + (wrap64 ((wrap64 (Int.tdiv (wrap64 ((wrap64 (12 * x3)) * x4)) bt213.2.1)) * bt213.1)))) = (wrap64 ((wrap64 ((wrap64 ((wrap64 (x3 * x3)) + (wrap64 (x4 * x4)))) + 1)) - (wrap64 ((wrap64 (3 * x3)) * x4)))) then ((galloonlaw03_awake.f k).bind fun t216 => (some t216)) else (some false)) else (some false))) else (some false))))))) else (some false))))
end
def galloonlaw03_YardSaws.f (k : Nat) (a0_0 : Int) (a0_1 : Int) : Option (Bool) := (galloonlaw03_tame.f k a0_0 a0_1 1000).bind fun bt201 => ((yard_Saw.f k bt201.1 bt201.2).bind fun bt203 => ((galloonlaw03_rest.f bt201.1 bt201.2).bind fun bt206 => ((yard_Saw.f k bt206.1 bt206.2).bind fun bt208 => (if bt203.2.2 = 0 then (if bt208.2.2 = 0 then (if bt203.2.1 < 1 then (galloonlaw03_YardSaws.j0 k bt201.1 bt201.2 bt203.1 bt203.2.1 true) else (if bt203.2.1 > (wrap64 ((wrap64 (4 * bt201.2)) * bt201.2)) then (galloonlaw03_YardSaws.j0 k bt201.1 bt201.2 bt203.1 bt203.2.1 true) else (if bt203.1 > (wrap64 (bt201.2 * bt201.2)) then (galloonlaw03_YardSaws.j0 k bt201.1 bt201.2 bt203.1 bt203.2.1 true) else (if bt203.1 < (wrap64 ((wrap64 (-bt201.2)) * bt201.2)) then (galloonlaw03_YardSaws.j0 k bt201.1 bt201.2 bt203.1 bt203.2.1 true) else ((galloonref03_Gcd.f k (mx bt203.1 (wrap64 (-bt203.1))) bt203.2.1).bind fun t211 => (if t211 = 1 then (if bt208.1 = (wrap64 (-bt203.1)) then (galloonlaw03_YardSaws.j0 k bt201.1 bt201.2 bt203.1 bt203.2.1 (bt208.2.1 != bt203.2.1)) else (galloonlaw03_YardSaws.j0 k bt201.1 bt201.2 bt203.1 bt203.2.1 true)) else (galloonlaw03_YardSaws.j0 k bt201.1 bt201.2 bt203.1 bt203.2.1 true))))))) else (galloonlaw03_YardSaws.j0 k bt201.1 bt201.2 bt203.1 bt203.2.1 true)) else (galloonlaw03_YardSaws.j0 k bt201.1 bt201.2 bt203.1 bt203.2.1 true)))))
theorem galloonlaw03_YardSaws.mono_l : ∀ k, (∀ y0 y1 y2 y3 y4, LeO (galloonlaw03_YardSaws.j0 k y0 y1 y2 y3 y4) (galloonlaw03_YardSaws.j0 (k + 1) y0 y1 y2 y3 y4)) ∧ (∀ y0 y1 y2 y3 y4, LeO (galloonlaw03_YardSaws.j1 k y0 y1 y2 y3 y4) (galloonlaw03_YardSaws.j1 (k + 1) y0 y1 y2 y3 y4))
  | 0 => ⟨fun _ _ _ _ _ r h => by simp [galloonlaw03_YardSaws.j0] at h, fun _ _ _ _ _ r h => by simp [galloonlaw03_YardSaws.j1] at h⟩
  | k + 1 => by
    obtain ⟨ih0, ih1⟩ := galloonlaw03_YardSaws.mono_l k
    refine ⟨?_, ?_⟩
    · intro y0 y1 y2 y3 y4
      unfold galloonlaw03_YardSaws.j0
      repeat' first
      | (with_reducible exact ih0 _ _ _ _ _)
      | (with_reducible exact ih1 _ _ _ _ _)
      | (with_reducible exact galloonlaw03_awake.mono _)
      | (with_reducible exact galloonlaw03_tame.mono _ _ _ _)
      | (with_reducible exact galloonref03_Gcd.mono _ _ _)
      | (with_reducible exact yard_Saw.mono _ _ _)
      | (with_reducible exact LeO.refl _)
      | (with_reducible exact LeO.none _)
      | (with_reducible refine LeO.ite ?_ ?_)
      | (with_reducible refine LeO.bind ?_ (fun _ => ?_))
      | exact ih0 _ _ _ _ _
      | exact ih1 _ _ _ _ _
      | exact galloonlaw03_awake.mono _
      | exact galloonlaw03_tame.mono _ _ _ _
      | exact galloonref03_Gcd.mono _ _ _
      | exact yard_Saw.mono _ _ _
      | exact LeO.none _
      | refine LeO.ite ?_ ?_
      | refine LeO.bind ?_ (fun _ => ?_)
    · intro y0 y1 y2 y3 y4
      unfold galloonlaw03_YardSaws.j1
      repeat' first
      | (with_reducible exact ih0 _ _ _ _ _)
      | (with_reducible exact ih1 _ _ _ _ _)
      | (with_reducible exact galloonlaw03_awake.mono _)
      | (with_reducible exact galloonlaw03_tame.mono _ _ _ _)
      | (with_reducible exact galloonref03_Gcd.mono _ _ _)
      | (with_reducible exact yard_Saw.mono _ _ _)
      | (with_reducible exact LeO.refl _)
      | (with_reducible exact LeO.none _)
      | (with_reducible refine LeO.ite ?_ ?_)
      | (with_reducible refine LeO.bind ?_ (fun _ => ?_))
      | exact ih0 _ _ _ _ _
      | exact ih1 _ _ _ _ _
      | exact galloonlaw03_awake.mono _
      | exact galloonlaw03_tame.mono _ _ _ _
      | exact galloonref03_Gcd.mono _ _ _
      | exact yard_Saw.mono _ _ _
      | exact LeO.none _
      | refine LeO.ite ?_ ?_
      | refine LeO.bind ?_ (fun _ => ?_)
theorem galloonlaw03_YardSaws.mono : ∀ a0 a1 k, LeO (galloonlaw03_YardSaws.f k a0 a1) (galloonlaw03_YardSaws.f (k + 1) a0 a1) := by
  intro a0 a1 k
  obtain ⟨ih0, ih1⟩ := galloonlaw03_YardSaws.mono_l k
  unfold galloonlaw03_YardSaws.f
  repeat' first
      | (with_reducible exact ih0 _ _ _ _ _)
      | (with_reducible exact ih1 _ _ _ _ _)
      | (with_reducible exact galloonlaw03_awake.mono _)
      | (with_reducible exact galloonlaw03_tame.mono _ _ _ _)
      | (with_reducible exact galloonref03_Gcd.mono _ _ _)
      | (with_reducible exact yard_Saw.mono _ _ _)
      | (with_reducible exact LeO.refl _)
      | (with_reducible exact LeO.none _)
      | (with_reducible refine LeO.ite ?_ ?_)
      | (with_reducible refine LeO.bind ?_ (fun _ => ?_))
      | exact ih0 _ _ _ _ _
      | exact ih1 _ _ _ _ _
      | exact galloonlaw03_awake.mono _
      | exact galloonlaw03_tame.mono _ _ _ _
      | exact galloonref03_Gcd.mono _ _ _
      | exact yard_Saw.mono _ _ _
      | exact LeO.none _
      | refine LeO.ite ?_ ?_
      | refine LeO.bind ?_ (fun _ => ?_)
def galloonlaw03_YardSaws.T12 : Bool × List (List Nat × List Nat) := (true, [([], []), ([0], [0]), ([], []), ([1, 2], [1, 2]), ([], []), ([3, 4], [3, 4]), ([5], [5]), ([6], [6]), ([7], [7]), ([8, 7], [7, 8]), ([7], [7]), ([9, 10, 7], [7, 9, 10]), ([7], [7]), ([11, 12, 7], [7, 11, 12]), ([13, 7], [7, 13]), ([7, 14], [7, 14]), ([15, 7], [15]), ([16], [16]), ([17, 16], [16, 17]), ([16], [16]), ([18, 19, 16], [16, 18, 19]), ([16], [16]), ([20, 21, 16], [16, 20, 21]), ([16], [16]), ([22, 23, 16], [16, 22, 23]), ([16], [16]), ([25, 16], [16, 25]), ([16], [16]), ([26, 27, 16], [16, 26, 27]), ([16], [16]), ([28, 29, 16], [16, 28, 29]), ([16], [16]), ([30, 31, 16], [16, 30, 31]), ([24, 32, 16], [16, 24, 32]), ([16], [16]), ([16], [16]), ([34, 35, 16], [16, 34, 35]), ([16], [16]), ([16], [16]), ([37, 38, 16], [16, 37, 38]), ([36, 39, 16], [16, 36, 39]), ([40, 16], [16, 40]), ([16], [16]), ([42, 16], [16, 42]), ([16], [16]), ([43, 44, 16], [16, 43, 44]), ([41, 45, 16], [16, 41, 45]), ([33, 46, 16], [16, 33, 46]), ([16, 47], [16, 47]), ([48, 16], [48]), ([49, 49], [49]), ([49, 50], [49, 50]), ([51, 50, 0, 1, 2, 3, 4, 5, 6, 7, 8, 9, 10, 11, 12, 13, 14, 15, 16, 17, 18, 19, 20, 21, 22, 23, 24, 25, 26, 27, 28, 29, 30, 31, 32, 33, 34, 35, 36, 37, 38, 39, 40, 41, 42, 43, 44, 45, 46, 47, 48, 49, 50, 51], [51])])
def galloonlaw03_YardSaws.B12 : List Nat := [0, 1, 0, 7, 0, 31, 63, 127, 255, 511, 255, 2047, 255, 8191, 16383, 32767, 65535, 131071, 262143, 131071, 1048575, 131071, 4194303, 131071, 16777215, 131071, 33685503, 131071, 235012095, 131071, 1040318463, 131071, 4261543935, 8589934591, 131071, 131071, 51539738623, 131071, 131071, 412316991487, 1082331889663, 2181843517439, 131071, 4398046642175, 131071, 30786325708799, 70351564439551, 140737488355327, 281474976710655, 562949953421311, 1125899906842623, 2251799813685247, 4503599627370495]
theorem galloonlaw03_YardSaws.tab12 : rtab .any (opsOf Try.f4 12) = galloonlaw03_YardSaws.T12 := by kernel_rfl
theorem galloonlaw03_YardSaws.bits12 : waitsOk galloonlaw03_YardSaws.T12.2 galloonlaw03_YardSaws.B12 = true := by kernel_rfl
set_option maxHeartbeats 8000000 in
set_option maxRecDepth 100000 in
theorem galloonlaw03_YardSaws.calls (k : Nat) (a0_0 : Int) (a0_1 : Int) (r : Bool) (w : World) (h : galloonlaw03_YardSaws.f k a0_0 a0_1 = some r) (hr : Aside0 (r = true)) :
    Calls Try.prog 4 #[.agg #[.int .i64 a0_0, .int .i64 a0_1]] w fun e w' => e = .returned (.bool r) ∧ Below w.heap.size w w' := by
  have hu23 := Try.underlying23
  have HB := Aside0.mk (Below.refl w.heap.size w)
  have H : ((galloonlaw03_tame.f k a0_0 a0_1 1000).bind fun bt201 => ((yard_Saw.f k bt201.1 bt201.2).bind fun bt203 => ((galloonlaw03_rest.f bt201.1 bt201.2).bind fun bt206 => ((yard_Saw.f k bt206.1 bt206.2).bind fun bt208 => (if bt203.2.2 = 0 then (if bt208.2.2 = 0 then (if bt203.2.1 < 1 then (galloonlaw03_YardSaws.j0 k bt201.1 bt201.2 bt203.1 bt203.2.1 true) else (if bt203.2.1 > (wrap64 ((wrap64 (4 * bt201.2)) * bt201.2)) then (galloonlaw03_YardSaws.j0 k bt201.1 bt201.2 bt203.1 bt203.2.1 true) else (if bt203.1 > (wrap64 (bt201.2 * bt201.2)) then (galloonlaw03_YardSaws.j0 k bt201.1 bt201.2 bt203.1 bt203.2.1 true) else (if bt203.1 < (wrap64 ((wrap64 (-bt201.2)) * bt201.2)) then (galloonlaw03_YardSaws.j0 k bt201.1 bt201.2 bt203.1 bt203.2.1 true) else ((galloonref03_Gcd.f k (mx bt203.1 (wrap64 (-bt203.1))) bt203.2.1).bind fun t211 => (if t211 = 1 then (if bt208.1 = (wrap64 (-bt203.1)) then (galloonlaw03_YardSaws.j0 k bt201.1 bt201.2 bt203.1 bt203.2.1 (bt208.2.1 != bt203.2.1)) else (galloonlaw03_YardSaws.j0 k bt201.1 bt201.2 bt203.1 bt203.2.1 true)) else (galloonlaw03_YardSaws.j0 k bt201.1 bt201.2 bt203.1 bt203.2.1 true))))))) else (galloonlaw03_YardSaws.j0 k bt201.1 bt201.2 bt203.1 bt203.2.1 true)) else (galloonlaw03_YardSaws.j0 k bt201.1 bt201.2 bt203.1 bt203.2.1 true)))))) = some r := h
  clear h
  replace H := Option.bind_eq_some_iff.mp H
  obtain ⟨⟨t201, t202⟩, A20, H⟩ := H
  replace H : ((yard_Saw.f k t201 t202).bind fun bt203 => ((galloonlaw03_rest.f t201 t202).bind fun bt206 => ((yard_Saw.f k bt206.1 bt206.2).bind fun bt208 => (if bt203.2.2 = 0 then (if bt208.2.2 = 0 then (if bt203.2.1 < 1 then (galloonlaw03_YardSaws.j0 k t201 t202 bt203.1 bt203.2.1 true) else (if bt203.2.1 > (wrap64 ((wrap64 (4 * t202)) * t202)) then (galloonlaw03_YardSaws.j0 k t201 t202 bt203.1 bt203.2.1 true) else (if bt203.1 > (wrap64 (t202 * t202)) then (galloonlaw03_YardSaws.j0 k t201 t202 bt203.1 bt203.2.1 true) else (if bt203.1 < (wrap64 ((wrap64 (-t202)) * t202)) then (galloonlaw03_YardSaws.j0 k t201 t202 bt203.1 bt203.2.1 true) else ((galloonref03_Gcd.f k (mx bt203.1 (wrap64 (-bt203.1))) bt203.2.1).bind fun t211 => (if t211 = 1 then (if bt208.1 = (wrap64 (-bt203.1)) then (galloonlaw03_YardSaws.j0 k t201 t202 bt203.1 bt203.2.1 (bt208.2.1 != bt203.2.1)) else (galloonlaw03_YardSaws.j0 k t201 t202 bt203.1 bt203.2.1 true)) else (galloonlaw03_YardSaws.j0 k t201 t202 bt203.1 bt203.2.1 true))))))) else (galloonlaw03_YardSaws.j0 k t201 t202 bt203.1 bt203.2.1 true)) else (galloonlaw03_YardSaws.j0 k t201 t202 bt203.1 bt203.2.1 true))))) = some r := H
  have A2 := Aside0.mk A20
  clear A20
  replace H := Option.bind_eq_some_iff.mp H
  obtain ⟨⟨t203, t204, t205⟩, A30, H⟩ := H
  replace H : ((galloonlaw03_rest.f t201 t202).bind fun bt206 => ((yard_Saw.f k bt206.1 bt206.2).bind fun bt208 => (if t205 = 0 then (if bt208.2.2 = 0 then (if t204 < 1 then (galloonlaw03_YardSaws.j0 k t201 t202 t203 t204 true) else (if t204 > (wrap64 ((wrap64 (4 * t202)) * t202)) then (galloonlaw03_YardSaws.j0 k t201 t202 t203 t204 true) else (if t203 > (wrap64 (t202 * t202)) then (galloonlaw03_YardSaws.j0 k t201 t202 t203 t204 true) else (if t203 < (wrap64 ((wrap64 (-t202)) * t202)) then (galloonlaw03_YardSaws.j0 k t201 t202 t203 t204 true) else ((galloonref03_Gcd.f k (mx t203 (wrap64 (-t203))) t204).bind fun t211 => (if t211 = 1 then (if bt208.1 = (wrap64 (-t203)) then (galloonlaw03_YardSaws.j0 k t201 t202 t203 t204 (bt208.2.1 != t204)) else (galloonlaw03_YardSaws.j0 k t201 t202 t203 t204 true)) else (galloonlaw03_YardSaws.j0 k t201 t202 t203 t204 true))))))) else (galloonlaw03_YardSaws.j0 k t201 t202 t203 t204 true)) else (galloonlaw03_YardSaws.j0 k t201 t202 t203 t204 true)))) = some r := H
  have A3 := Aside0.mk A30
  clear A30
  replace H := Option.bind_eq_some_iff.mp H
  obtain ⟨⟨t206, t207⟩, A40, H⟩ := H
  replace H : ((yard_Saw.f k t206 t207).bind fun bt208 => (if t205 = 0 then (if bt208.2.2 = 0 then (if t204 < 1 then (galloonlaw03_YardSaws.j0 k t201 t202 t203 t204 true) else (if t204 > (wrap64 ((wrap64 (4 * t202)) * t202)) then (galloonlaw03_YardSaws.j0 k t201 t202 t203 t204 true) else (if t203 > (wrap64 (t202 * t202)) then (galloonlaw03_YardSaws.j0 k t201 t202 t203 t204 true) else (if t203 < (wrap64 ((wrap64 (-t202)) * t202)) then (galloonlaw03_YardSaws.j0 k t201 t202 t203 t204 true) else ((galloonref03_Gcd.f k (mx t203 (wrap64 (-t203))) t204).bind fun t211 => (if t211 = 1 then (if bt208.1 = (wrap64 (-t203)) then (galloonlaw03_YardSaws.j0 k t201 t202 t203 t204 (bt208.2.1 != t204)) else (galloonlaw03_YardSaws.j0 k t201 t202 t203 t204 true)) else (galloonlaw03_YardSaws.j0 k t201 t202 t203 t204 true))))))) else (galloonlaw03_YardSaws.j0 k t201 t202 t203 t204 true)) else (galloonlaw03_YardSaws.j0 k t201 t202 t203 t204 true))) = some r := H
  have A4 := Aside0.mk A40
  clear A40
  replace H := Option.bind_eq_some_iff.mp H
  obtain ⟨⟨t208, t209, t210⟩, A50, H⟩ := H
  replace H : (if t205 = 0 then (if t210 = 0 then (if t204 < 1 then (galloonlaw03_YardSaws.j0 k t201 t202 t203 t204 true) else (if t204 > (wrap64 ((wrap64 (4 * t202)) * t202)) then (galloonlaw03_YardSaws.j0 k t201 t202 t203 t204 true) else (if t203 > (wrap64 (t202 * t202)) then (galloonlaw03_YardSaws.j0 k t201 t202 t203 t204 true) else (if t203 < (wrap64 ((wrap64 (-t202)) * t202)) then (galloonlaw03_YardSaws.j0 k t201 t202 t203 t204 true) else ((galloonref03_Gcd.f k (mx t203 (wrap64 (-t203))) t204).bind fun t211 => (if t211 = 1 then (if t208 = (wrap64 (-t203)) then (galloonlaw03_YardSaws.j0 k t201 t202 t203 t204 (t209 != t204)) else (galloonlaw03_YardSaws.j0 k t201 t202 t203 t204 true)) else (galloonlaw03_YardSaws.j0 k t201 t202 t203 t204 true))))))) else (galloonlaw03_YardSaws.j0 k t201 t202 t203 t204 true)) else (galloonlaw03_YardSaws.j0 k t201 t202 t203 t204 true)) = some r := H
  have A5 := Aside0.mk A50
  clear A50
  have HC6 := Aside0.mk H
  clear H
  go_enter Try.func4, Try.ntmps4
  try go_wp2_with (first | ((with_reducible refine gate_dst (N := 1) rfl ?_); (try (refine gate_guard (by rfl) ?_; dsimp only)); refine box_event ?hg (N := 1) ?hd (cs := #[.int .i64 a0_0, .int .i64 a0_1]) (t := 23) ?hr ?_; (case hd => rfl); (case hg => rfl); (case hr => first | (go_simp; done) | (go_simp; rfl)); intro gb200 hg w7 hbox hb; have n0_ := Aside0.mk (below_step (by repeat (first | (with_reducible first | exact HB.out | apply below_alloc | apply pw_below_drewN | apply below_drew1) | exact HB.out)) hb); have n1_ := Aside0.mk (hbox); have n2_ := Aside0.mk ((by rw [hg]; exact (below_size (by repeat (first | (with_reducible first | exact HB.out | apply below_alloc | apply pw_below_drewN | apply below_drew1) | exact HB.out))) : w.heap.size ≤ gb200)); have n3_ := Aside0.mk ((by rw [hg]; exact (below_size (by repeat (first | (with_reducible first | exact HB.out | apply below_alloc | apply pw_below_drewN | apply below_drew1) | exact HB.out))) : w.heap.size ≤ gb200)); clear HB; have HB := n0_; have BK200 := n1_; have GW200 := n2_; have GE200 := n3_; clear n0_ n1_ n2_ n3_; clear hb hbox hg; have hcz8_0 : w7.cell? ⟨gb200, 0, none⟩ = some (.int .i64 a0_0) := (blk_cell BK200.out 0).trans rfl; have hcz8_1 : w7.cell? ⟨gb200, 1, none⟩ = some (.int .i64 a0_1) := (blk_cell BK200.out 1).trans rfl; have hfz8_0 := blk_frozen BK200.out 0; have hfz8_1 := blk_frozen BK200.out 1) | ((with_reducible refine gate_callee (f := 26) rfl ?_); refine goesL_ (some 15) rfl rfl Try.func26 (by kernel_rfl) rfl #[.agg #[.int .i64 a0_0, .int .i64 a0_1], .int .i64 1000] rfl (by (try simp only [List.map_toArray, List.map_cons, List.map_nil]); first | done | rfl | (simp only [List.length_drop, List.length_take]; rfl)) ?_; (with_reducible refine (galloonlaw03_tame.calls k a0_0 a0_1 1000 t201 t202 _ A2.out).mono ?_); rintro e w9 ⟨rfl, hb⟩; refine ⟨_, rfl, ?_⟩; have n0_ := Aside0.mk (blk_below (g := gb200) (o := .cells #[.int .i64 a0_0, .int .i64 a0_1] 23 (0, 0)) (by (with_reducible repeat (first | refine blk_drewN ?_ _ | refine blk_drew ?_ | refine blk_alloc ?_ _)); exact BK200.out) hb); have n1_ := Aside0.mk (below_step (by repeat (first | (with_reducible first | exact HB.out | apply below_alloc | apply pw_below_drewN | apply below_drew1 | refine below_set ?_ GE200.out) | exact HB.out)) hb); clear BK200; clear HB; have BK200 := n0_; have HB := n1_; clear n0_ n1_; (try clear hb); (try clear hb2); (try clear hk); (try clear hi); have hcz10_0 : w9.cell? ⟨gb200, 0, none⟩ = some (.int .i64 a0_0) := (blk_cell BK200.out 0).trans rfl; have hcz10_1 : w9.cell? ⟨gb200, 1, none⟩ = some (.int .i64 a0_1) := (blk_cell BK200.out 1).trans rfl; have hfz10_0 := blk_frozen BK200.out 0; have hfz10_1 := blk_frozen BK200.out 1))
  have n0_ : Aside0 (((w9.setCell ⟨gb200, 0, none⟩ (.int .i64 t201)).setCell ⟨gb200, 1, none⟩ (.int .i64 t202)).heap[gb200]? = some (.cells #[.int .i64 t201, .int .i64 t202] 23 (0, 0))) := ⟨by (with_reducible repeat (first | refine blk_drewN ?_ _ | refine blk_drew ?_ | refine blk_alloc ?_ _)); refine blk_put (cs := #[.int .i64 t201, .int .i64 a0_1]) ?_ 1 _ rfl; (with_reducible repeat (first | refine blk_drewN ?_ _ | refine blk_drew ?_ | refine blk_alloc ?_ _)); refine blk_put (cs := #[.int .i64 a0_0, .int .i64 a0_1]) ?_ 0 _ rfl; (with_reducible repeat (first | refine blk_drewN ?_ _ | refine blk_drew ?_ | refine blk_alloc ?_ _)); exact BK200.out⟩
  have n1_ : Aside0 (Below w.heap.size w ((w9.setCell ⟨gb200, 0, none⟩ (.int .i64 t201)).setCell ⟨gb200, 1, none⟩ (.int .i64 t202))) := ⟨by repeat (first | (with_reducible first | exact HB.out | apply below_alloc | apply pw_below_drewN | apply below_drew1 | refine below_set ?_ GE200.out) | exact HB.out)⟩
  (try clear BK200)
  (try clear HB)
  generalize ((w9.setCell ⟨gb200, 0, none⟩ (.int .i64 t201)).setCell ⟨gb200, 1, none⟩ (.int .i64 t202)) = w11 at n0_ n1_ ⊢
  have BK200 := n0_
  have HB := n1_
  clear n0_ n1_
  have n0_ := Aside0.mk (blk_drew BK200.out)
  have n1_ := Aside0.mk (below_drew1 HB.out)
  clear BK200
  clear HB
  have BK200 := n0_
  have HB := n1_
  clear n0_ n1_
  refine start_ (n := 6) (S := fun w' => w'.cell? ⟨gb200, 0, none⟩ = some (.int .i64 t201) ∧ w'.cell? ⟨gb200, 1, none⟩ = some (.int .i64 t202)) (ds := []) #[false, false, false, false, false, false] (by kernel_rfl) rfl rfl ⟨(blk_cell BK200.out 0).trans rfl, (blk_cell BK200.out 1).trans rfl⟩ (fun hHeld => ?_)
  generalize w11.drew = w12 at BK200 HB hHeld ⊢
  refine pure_ (i := 0) (N := some 16) (v := ?_) (a' := ?_) #[true, false, false, false, false, false] rfl rfl (by kernel_rfl) (fun _ _ _ h => h) (Or.inl ⟨by rfl, ?_⟩) ?_ ?_
  rotate_left
  · intro w'
    go_simp
    with_reducible rfl
  rotate_left
  · simp only [Act.put, List.setIfInBounds_toArray, List.set_cons_zero, List.set_cons_succ, i64_w, i32_w]
    rfl
  refine pure_ (i := 2) (N := some 18) (v := ?_) (a' := ?_) #[true, false, true, false, false, false] rfl rfl (by kernel_rfl) (fun _ _ _ h => h) (Or.inl ⟨by rfl, ?_⟩) ?_ ?_
  rotate_left
  · intro w'
    go_simp
    with_reducible rfl
  rotate_left
  · simp only [Act.put, List.setIfInBounds_toArray, List.set_cons_zero, List.set_cons_succ, i64_w, i32_w]
    rfl
  refine take_ (i := 1) (N := some 17) (v := ?_) (a' := ?_) #[true, true, true, false, false, false] rfl rfl (by kernel_rfl) (fun _ _ _ h => h) (Or.inl ⟨by rfl, ?_⟩) hHeld ?_ ?_
  rotate_left
  · rintro w' ⟨s0, s1⟩
    go_simp
    with_reducible rfl
  rotate_left
  · simp only [Act.put, List.setIfInBounds_toArray, List.set_cons_zero, List.set_cons_succ, i64_w, i32_w]
    rfl
  refine pure_ (i := 4) (N := some 3) (v := ?_) (a' := ?_) #[true, true, true, false, true, false] rfl rfl (by kernel_rfl) (fun _ _ _ h => h) (Or.inl ⟨by rfl, ?_⟩) ?_ ?_
  rotate_left
  · intro w'
    go_simp
    with_reducible rfl
  rotate_left
  · simp only [Act.put, List.setIfInBounds_toArray, List.set_cons_zero, List.set_cons_succ, i64_w, i32_w]
    rfl
  refine take_ (i := 3) (N := some 19) (v := ?_) (a' := ?_) #[true, true, true, true, true, false] rfl rfl (by kernel_rfl) (fun _ _ _ h => h) (Or.inl ⟨by rfl, ?_⟩) hHeld ?_ ?_
  rotate_left
  · rintro w' ⟨s0, s1⟩
    go_simp
    with_reducible rfl
  rotate_left
  · simp only [Act.put, List.setIfInBounds_toArray, List.set_cons_zero, List.set_cons_succ, i64_w, i32_w]
    rfl
  refine pure_ (i := 5) (N := some 4) (v := ?_) (a' := ?_) #[true, true, true, true, true, true] rfl rfl (by kernel_rfl) (fun _ _ _ h => h) (Or.inl ⟨by rfl, ?_⟩) ?_ ?_
  rotate_left
  · intro w'
    go_simp
    with_reducible rfl
  rotate_left
  · simp only [Act.put, List.setIfInBounds_toArray, List.set_cons_zero, List.set_cons_succ, i64_w, i32_w]
    rfl
  refine done_ (by kernel_rfl) ?_
  have hcz13_0 : w12.cell? ⟨gb200, 0, none⟩ = some (.int .i64 t201) := (blk_cell BK200.out 0).trans rfl
  have hcz13_1 : w12.cell? ⟨gb200, 1, none⟩ = some (.int .i64 t202) := (blk_cell BK200.out 1).trans rfl
  have hfz13_0 := blk_frozen BK200.out 0
  have hfz13_1 := blk_frozen BK200.out 1
  go_upto_region 5 with (first | ((with_reducible refine gate_callee (f := 19) rfl ?_); refine goesL_ (some 22) rfl rfl Try.func19 (by kernel_rfl) rfl #[.agg #[.int .i64 t201, .int .i64 t202]] rfl (by (try simp only [List.map_toArray, List.map_cons, List.map_nil]); first | done | rfl | (simp only [List.length_drop, List.length_take]; rfl)) ?_; (with_reducible refine (yard_Saw.calls k t201 t202 t203 t204 t205 _ A3.out).mono ?_); rintro e w14 ⟨rfl, hb⟩; refine ⟨_, rfl, ?_⟩; have n0_ := Aside0.mk (blk_below (g := gb200) (o := .cells #[.int .i64 t201, .int .i64 t202] 23 (0, 0)) (by (with_reducible repeat (first | refine blk_drewN ?_ _ | refine blk_drew ?_ | refine blk_alloc ?_ _)); exact BK200.out) hb); have n1_ := Aside0.mk (below_step (by repeat (first | (with_reducible first | exact HB.out | apply below_alloc | apply pw_below_drewN | apply below_drew1 | refine below_set ?_ GE200.out) | exact HB.out)) hb); clear BK200; clear HB; have BK200 := n0_; have HB := n1_; clear n0_ n1_; (try clear hb); (try clear hb2); (try clear hk); (try clear hi); have hcz15_0 : w14.cell? ⟨gb200, 0, none⟩ = some (.int .i64 t201) := (blk_cell BK200.out 0).trans rfl; have hcz15_1 : w14.cell? ⟨gb200, 1, none⟩ = some (.int .i64 t202) := (blk_cell BK200.out 1).trans rfl; have hfz15_0 := blk_frozen BK200.out 0; have hfz15_1 := blk_frozen BK200.out 1) | ((with_reducible refine gate_callee (f := 27) rfl ?_); refine goesL_ (some 28) rfl rfl Try.func27 (by kernel_rfl) rfl #[.agg #[.int .i64 t201, .int .i64 t202]] rfl (by (try simp only [List.map_toArray, List.map_cons, List.map_nil]); first | done | rfl | (simp only [List.length_drop, List.length_take]; rfl)) ?_; (with_reducible refine (galloonlaw03_rest.calls t201 t202 t206 t207 _ A4.out).mono ?_); rintro e w16 ⟨rfl, hb⟩; refine ⟨_, rfl, ?_⟩; have n0_ := Aside0.mk (blk_below (g := gb200) (o := .cells #[.int .i64 t201, .int .i64 t202] 23 (0, 0)) (by (with_reducible repeat (first | refine blk_drewN ?_ _ | refine blk_drew ?_ | refine blk_alloc ?_ _)); exact BK200.out) hb); have n1_ := Aside0.mk (below_step (by repeat (first | (with_reducible first | exact HB.out | apply below_alloc | apply pw_below_drewN | apply below_drew1 | refine below_set ?_ GE200.out) | exact HB.out)) hb); clear BK200; clear HB; have BK200 := n0_; have HB := n1_; clear n0_ n1_; (try clear hb); (try clear hb2); (try clear hk); (try clear hi)) | ((with_reducible refine gate_callee (f := 19) rfl ?_); refine goesL_ (some 29) rfl rfl Try.func19 (by kernel_rfl) rfl #[.agg #[.int .i64 t206, .int .i64 t207]] rfl (by (try simp only [List.map_toArray, List.map_cons, List.map_nil]); first | done | rfl | (simp only [List.length_drop, List.length_take]; rfl)) ?_; (with_reducible refine (yard_Saw.calls k t206 t207 t208 t209 t210 _ A5.out).mono ?_); rintro e w17 ⟨rfl, hb⟩; refine ⟨_, rfl, ?_⟩; have n0_ := Aside0.mk (blk_below (g := gb200) (o := .cells #[.int .i64 t201, .int .i64 t202] 23 (0, 0)) (by (with_reducible repeat (first | refine blk_drewN ?_ _ | refine blk_drew ?_ | refine blk_alloc ?_ _)); exact BK200.out) hb); have n1_ := Aside0.mk (below_step (by repeat (first | (with_reducible first | exact HB.out | apply below_alloc | apply pw_below_drewN | apply below_drew1 | refine below_set ?_ GE200.out) | exact HB.out)) hb); clear BK200; clear HB; have BK200 := n0_; have HB := n1_; clear n0_ n1_; (try clear hb); (try clear hb2); (try clear hk); (try clear hi)))
  (try simp only [Act.put, List.setIfInBounds_toArray, List.set_cons_zero, List.set_cons_succ])
  go_cut [85] (fun v85 wc => ∃ (kq : Nat) (x85_5 : Bool), v85 = .bool x85_5 ∧ Aside0 (galloonlaw03_YardSaws.j0 kq t201 t202 t203 t204 x85_5 = some r) ∧ Aside0 (kq ≤ k) ∧ Aside0 (wc.heap[gb200]? = some (.cells #[.int .i64 t201, .int .i64 t202] 23 (0, 0))) ∧ Aside0 (Below w.heap.size w wc))
  case first =>
    have H := HC6.out
    clear HC6
    by_cases c18 : t205 = 0
    · rw [if_pos c18] at H
      have c18b0 : (t205 == 0) = true := beq_iff_eq.mpr c18
      have c18b1 : (t205 != 0) = false := bne_eq_false_iff_eq.mpr c18
      clear c18
      (first | rw [c18b0] | (simp only [i64_w, i32_w]; rw [c18b0]) | skip)
      by_cases c19 : t210 = 0
      · rw [if_pos c19] at H
        have c19b0 : (t210 == 0) = true := beq_iff_eq.mpr c19
        have c19b1 : (t210 != 0) = false := bne_eq_false_iff_eq.mpr c19
        clear c19
        by_cases c20 : t204 < 1
        · rw [if_pos c20] at H
          have c20b0 : decide (t204 < 1) = true := decide_eq_true c20
          clear c20
          have H' := Aside0.mk H
          clear H
          go_wp2
          go_meet
          case rel => exact ⟨_, (true), (by first | rfl | (simp; done) | (simp [*]; done)), H', ⟨by first | omega | exact Nat.le_refl _⟩, ⟨by (with_reducible repeat (first | refine blk_drewN ?_ _ | refine blk_drew ?_ | refine blk_alloc ?_ _)); exact BK200.out⟩, ⟨by repeat (first | (with_reducible first | exact HB.out | apply below_alloc | apply pw_below_drewN | apply below_drew1 | refine below_set ?_ GE200.out) | exact HB.out)⟩⟩
        · rw [if_neg c20] at H
          have c20b0 : decide (t204 < 1) = false := decide_eq_false c20
          clear c20
          by_cases c21 : t204 > (wrap64 ((wrap64 (4 * t202)) * t202))
          · rw [if_pos c21] at H
            have c21b0 : decide ((wrap64 ((wrap64 (4 * t202)) * t202)) < t204) = true := decide_eq_true c21
            clear c21
            have H' := Aside0.mk H
            clear H
            go_wp2
            go_meet
            case rel => exact ⟨_, (true), (by first | rfl | (simp; done) | (simp [*]; done)), H', ⟨by first | omega | exact Nat.le_refl _⟩, ⟨by (with_reducible repeat (first | refine blk_drewN ?_ _ | refine blk_drew ?_ | refine blk_alloc ?_ _)); exact BK200.out⟩, ⟨by repeat (first | (with_reducible first | exact HB.out | apply below_alloc | apply pw_below_drewN | apply below_drew1 | refine below_set ?_ GE200.out) | exact HB.out)⟩⟩
          · rw [if_neg c21] at H
            have c21b0 : decide ((wrap64 ((wrap64 (4 * t202)) * t202)) < t204) = false := decide_eq_false c21
            clear c21
            by_cases c22 : t203 > (wrap64 (t202 * t202))
            · rw [if_pos c22] at H
              have c22b0 : decide ((wrap64 (t202 * t202)) < t203) = true := decide_eq_true c22
              clear c22
              have H' := Aside0.mk H
              clear H
              go_wp2
              go_meet
              case rel => exact ⟨_, (true), (by first | rfl | (simp; done) | (simp [*]; done)), H', ⟨by first | omega | exact Nat.le_refl _⟩, ⟨by (with_reducible repeat (first | refine blk_drewN ?_ _ | refine blk_drew ?_ | refine blk_alloc ?_ _)); exact BK200.out⟩, ⟨by repeat (first | (with_reducible first | exact HB.out | apply below_alloc | apply pw_below_drewN | apply below_drew1 | refine below_set ?_ GE200.out) | exact HB.out)⟩⟩
            · rw [if_neg c22] at H
              have c22b0 : decide ((wrap64 (t202 * t202)) < t203) = false := decide_eq_false c22
              clear c22
              by_cases c23 : t203 < (wrap64 ((wrap64 (-t202)) * t202))
              · rw [if_pos c23] at H
                have c23b0 : decide (t203 < (wrap64 ((wrap64 (-t202)) * t202))) = true := decide_eq_true c23
                clear c23
                have H' := Aside0.mk H
                clear H
                go_wp2
                go_meet
                case rel => exact ⟨_, (true), (by first | rfl | (simp; done) | (simp [*]; done)), H', ⟨by first | omega | exact Nat.le_refl _⟩, ⟨by (with_reducible repeat (first | refine blk_drewN ?_ _ | refine blk_drew ?_ | refine blk_alloc ?_ _)); exact BK200.out⟩, ⟨by repeat (first | (with_reducible first | exact HB.out | apply below_alloc | apply pw_below_drewN | apply below_drew1 | refine below_set ?_ GE200.out) | exact HB.out)⟩⟩
              · rw [if_neg c23] at H
                have c23b0 : decide (t203 < (wrap64 ((wrap64 (-t202)) * t202))) = false := decide_eq_false c23
                clear c23
                obtain ⟨ji24, hji24⟩ : ∃ j_ : Int, (mx t203 (wrap64 (-t203))) = j_ := ⟨_, rfl⟩
                replace H : ((galloonref03_Gcd.f k (ji24) t204).bind fun t211 => (if t211 = 1 then (if t208 = (wrap64 (-t203)) then (galloonlaw03_YardSaws.j0 k t201 t202 t203 t204 (t209 != t204)) else (galloonlaw03_YardSaws.j0 k t201 t202 t203 t204 true)) else (galloonlaw03_YardSaws.j0 k t201 t202 t203 t204 true))) = some r := by first | (rw [hji24] at H; exact H) | (simp only [hji24] at H ⊢; exact H)
                have hji24_ : (if t203 < (wrap64 (-t203)) then (wrap64 (-t203)) else t203) = ji24 := hji24
                replace H := Option.bind_eq_some_iff.mp H
                obtain ⟨t211, A250, H⟩ := H
                replace H : (if t211 = 1 then (if t208 = (wrap64 (-t203)) then (galloonlaw03_YardSaws.j0 k t201 t202 t203 t204 (t209 != t204)) else (galloonlaw03_YardSaws.j0 k t201 t202 t203 t204 true)) else (galloonlaw03_YardSaws.j0 k t201 t202 t203 t204 true)) = some r := H
                have A25 := Aside0.mk A250
                clear A250
                by_cases c26 : t211 = 1
                · rw [if_pos c26] at H
                  have c26b0 : (t211 == 1) = true := beq_iff_eq.mpr c26
                  have c26b1 : (t211 != 1) = false := bne_eq_false_iff_eq.mpr c26
                  clear c26
                  by_cases c27 : t208 = (wrap64 (-t203))
                  · rw [if_pos c27] at H
                    have c27b0 : (t208 == (wrap64 (-t203))) = true := beq_iff_eq.mpr c27
                    have c27b1 : (t208 != (wrap64 (-t203))) = false := bne_eq_false_iff_eq.mpr c27
                    clear c27
                    have H' := Aside0.mk H
                    clear H
                    go_wp2_with (first | (go_at_call 28; (with_reducible refine (galloonref03_Gcd.calls k ji24 t204 t211 _ A25.out).mono ?_); rintro e w' ⟨rfl, ⟨nd, rfl⟩⟩))
                    go_meet
                    case rel => exact ⟨_, ((t209 != t204)), (by first | rfl | (simp; done) | (simp [*]; done)), H', ⟨by first | omega | exact Nat.le_refl _⟩, ⟨by (with_reducible repeat (first | refine blk_drewN ?_ _ | refine blk_drew ?_ | refine blk_alloc ?_ _)); exact BK200.out⟩, ⟨by repeat (first | (with_reducible first | exact HB.out | apply below_alloc | apply pw_below_drewN | apply below_drew1 | refine below_set ?_ GE200.out) | exact HB.out)⟩⟩
                  · rw [if_neg c27] at H
                    have c27b0 : (t208 == (wrap64 (-t203))) = false := beq_eq_false_iff_ne.mpr c27
                    have c27b1 : (t208 != (wrap64 (-t203))) = true := bne_iff_ne.mpr c27
                    have H' := Aside0.mk H
                    clear H
                    go_wp2_with (first | (go_at_call 28; (with_reducible refine (galloonref03_Gcd.calls k ji24 t204 t211 _ A25.out).mono ?_); rintro e w' ⟨rfl, ⟨nd, rfl⟩⟩))
                    go_meet
                    case rel => exact ⟨_, (true), (by first | rfl | (simp; done) | (simp [*]; done)), H', ⟨by first | omega | exact Nat.le_refl _⟩, ⟨by (with_reducible repeat (first | refine blk_drewN ?_ _ | refine blk_drew ?_ | refine blk_alloc ?_ _)); exact BK200.out⟩, ⟨by repeat (first | (with_reducible first | exact HB.out | apply below_alloc | apply pw_below_drewN | apply below_drew1 | refine below_set ?_ GE200.out) | exact HB.out)⟩⟩
                · rw [if_neg c26] at H
                  have c26b0 : (t211 == 1) = false := beq_eq_false_iff_ne.mpr c26
                  have c26b1 : (t211 != 1) = true := bne_iff_ne.mpr c26
                  have H' := Aside0.mk H
                  clear H
                  go_wp2_with (first | (go_at_call 28; (with_reducible refine (galloonref03_Gcd.calls k ji24 t204 t211 _ A25.out).mono ?_); rintro e w' ⟨rfl, ⟨nd, rfl⟩⟩))
                  go_meet
                  case rel => exact ⟨_, (true), (by first | rfl | (simp; done) | (simp [*]; done)), H', ⟨by first | omega | exact Nat.le_refl _⟩, ⟨by (with_reducible repeat (first | refine blk_drewN ?_ _ | refine blk_drew ?_ | refine blk_alloc ?_ _)); exact BK200.out⟩, ⟨by repeat (first | (with_reducible first | exact HB.out | apply below_alloc | apply pw_below_drewN | apply below_drew1 | refine below_set ?_ GE200.out) | exact HB.out)⟩⟩
      · rw [if_neg c19] at H
        have c19b0 : (t210 == 0) = false := beq_eq_false_iff_ne.mpr c19
        have c19b1 : (t210 != 0) = true := bne_iff_ne.mpr c19
        have H' := Aside0.mk H
        clear H
        go_wp2
        go_meet
        case rel => exact ⟨_, (true), (by first | rfl | (simp; done) | (simp [*]; done)), H', ⟨by first | omega | exact Nat.le_refl _⟩, ⟨by (with_reducible repeat (first | refine blk_drewN ?_ _ | refine blk_drew ?_ | refine blk_alloc ?_ _)); exact BK200.out⟩, ⟨by repeat (first | (with_reducible first | exact HB.out | apply below_alloc | apply pw_below_drewN | apply below_drew1 | refine below_set ?_ GE200.out) | exact HB.out)⟩⟩
    · rw [if_neg c18] at H
      have c18b0 : (t205 == 0) = false := beq_eq_false_iff_ne.mpr c18
      have c18b1 : (t205 != 0) = true := bne_iff_ne.mpr c18
      (first | rw [c18b0] | (simp only [i64_w, i32_w]; rw [c18b0]) | skip)
      have H' := Aside0.mk H
      clear H
      go_wp2
      go_meet
      case rel => exact ⟨_, (true), (by first | rfl | (simp; done) | (simp [*]; done)), H', ⟨by first | omega | exact Nat.le_refl _⟩, ⟨by (with_reducible repeat (first | refine blk_drewN ?_ _ | refine blk_drew ?_ | refine blk_alloc ?_ _)); exact BK200.out⟩, ⟨by repeat (first | (with_reducible first | exact HB.out | apply below_alloc | apply pw_below_drewN | apply below_drew1 | refine below_set ?_ GE200.out) | exact HB.out)⟩⟩
  case rest =>
    clear HC6
    try clear c1
    try clear c2
    try clear p2
    try clear c4
    try clear p6
    try clear c18
    try clear c18b0
    try clear c18b1
    try clear c19
    try clear c19b0
    try clear c19b1
    try clear c20
    try clear c20b0
    try clear c21
    try clear c21b0
    try clear c22
    try clear c22b0
    try clear c23
    try clear c23b0
    try clear c26
    try clear c26b0
    try clear c26b1
    try clear c27
    try clear c27b0
    try clear c27b1
    try clear hcz10_0
    try clear hcz10_1
    try clear hcz13_0
    try clear hcz13_1
    try clear hcz15_0
    try clear hcz15_1
    try clear hcz8_0
    try clear hcz8_1
    try clear hfz10_0
    try clear hfz10_1
    try clear hfz13_0
    try clear hfz13_1
    try clear hfz15_0
    try clear hfz15_1
    try clear hfz8_0
    try clear hfz8_1
    obtain ⟨kq, x85_5, rfl, HA, HJ5, BK200, HB⟩ := hcut
    cases kq with
    | zero => exact absurd HA.out (by simp [galloonlaw03_YardSaws.j0])
    | succ kj5 =>
      have H := HA.out
      clear HA
      simp only [galloonlaw03_YardSaws.j0] at H
      by_cases c28 : x85_5 = true
      · subst c28
        have H1 : (some false) = some r := by rw [if_pos rfl] at H; exact H
        clear H
        have H := H1
        clear H1
        obtain rfl := Option.some.inj H
        exact absurd hr.out (by decide)
      · replace c28 := Bool.eq_false_iff.mpr c28
        subst c28
        have H1 : (if t201 < 1 then (galloonlaw03_YardSaws.j1 kj5 t201 t202 t203 t204 true) else (galloonlaw03_YardSaws.j1 kj5 t201 t202 t203 t204 (decide (t201 ≥ t202)))) = some r := by rw [if_neg (show ¬ (false = true) by decide)] at H; exact H
        clear H
        have H := H1
        clear H1
        have HC29 := Aside0.mk H
        clear H
        go_upto_region 7 with (fail)
        go_cut [92] (fun v92 wc => ∃ (kq : Nat) (x92_28 : Bool), v92 = .bool x92_28 ∧ Aside0 (galloonlaw03_YardSaws.j1 kq t201 t202 t203 t204 x92_28 = some r) ∧ Aside0 (kq ≤ kj5) ∧ Aside0 (wc.heap[gb200]? = some (.cells #[.int .i64 t201, .int .i64 t202] 23 (0, 0))) ∧ Aside0 (Below w.heap.size w wc))
        case first =>
          have H := HC29.out
          clear HC29
          by_cases c30 : t201 < 1
          · rw [if_pos c30] at H
            have c30b0 : decide (t201 < 1) = true := decide_eq_true c30
            clear c30
            (first | rw [c30b0] | (simp only [i64_w, i32_w]; rw [c30b0]) | skip)
            have H' := Aside0.mk H
            clear H
            go_wp2
            go_meet
            case rel => exact ⟨_, (true), (by first | rfl | (simp; done) | (simp [*]; done)), H', ⟨by have := HJ5.out; first | omega | exact Nat.le_refl _⟩, ⟨by (with_reducible repeat (first | refine blk_drewN ?_ _ | refine blk_drew ?_ | refine blk_alloc ?_ _)); exact BK200.out⟩, ⟨by repeat (first | (with_reducible first | exact HB.out | apply below_alloc | apply pw_below_drewN | apply below_drew1 | refine below_set ?_ GE200.out) | exact HB.out)⟩⟩
          · rw [if_neg c30] at H
            have c30b0 : decide (t201 < 1) = false := decide_eq_false c30
            clear c30
            (first | rw [c30b0] | (simp only [i64_w, i32_w]; rw [c30b0]) | skip)
            have H' := Aside0.mk H
            clear H
            go_wp2
            go_meet
            case rel => exact ⟨_, (decide (t201 ≥ t202)), (by first | rfl | (simp; done) | (simp [*]; done)), H', ⟨by have := HJ5.out; first | omega | exact Nat.le_refl _⟩, ⟨by (with_reducible repeat (first | refine blk_drewN ?_ _ | refine blk_drew ?_ | refine blk_alloc ?_ _)); exact BK200.out⟩, ⟨by repeat (first | (with_reducible first | exact HB.out | apply below_alloc | apply pw_below_drewN | apply below_drew1 | refine below_set ?_ GE200.out) | exact HB.out)⟩⟩
        case rest =>
          clear HC29
          try clear c1
          try clear c2
          try clear p2
          try clear c3
          try clear c4
          try clear p6
          try clear c18
          try clear c18b0
          try clear c18b1
          try clear c19
          try clear c19b0
          try clear c19b1
          try clear c20
          try clear c20b0
          try clear c21
          try clear c21b0
          try clear c22
          try clear c22b0
          try clear c23
          try clear c23b0
          try clear c26
          try clear c26b0
          try clear c26b1
          try clear c27
          try clear c27b0
          try clear c27b1
          try clear c28
          try clear c30
          try clear c30b0
          try clear hcz10_0
          try clear hcz10_1
          try clear hcz13_0
          try clear hcz13_1
          try clear hcz15_0
          try clear hcz15_1
          try clear hcz8_0
          try clear hcz8_1
          try clear hfz10_0
          try clear hfz10_1
          try clear hfz13_0
          try clear hfz13_1
          try clear hfz15_0
          try clear hfz15_1
          try clear hfz8_0
          try clear hfz8_1
          try clear p2
          try clear p6
          obtain ⟨kq, x92_28, rfl, HA, HJ28, BK200, HB⟩ := hcut
          cases kq with
          | zero => exact absurd HA.out (by simp [galloonlaw03_YardSaws.j1])
          | succ kj28 =>
            have H := HA.out
            clear HA
            simp only [galloonlaw03_YardSaws.j1] at H
            by_cases c31 : x92_28 = true
            · subst c31
              have H1 : (if t203 = 0 then (if t204 = 1 then ((galloonlaw03_awake.f kj28).bind fun t212 => (some t212)) else (some false)) else (some false)) = some r := by rw [if_pos rfl] at H; exact H
              clear H
              have H := H1
              clear H1
              by_cases c32 : t203 = 0
              · rw [if_pos c32] at H
                have c32b0 : (t203 == 0) = true := beq_iff_eq.mpr c32
                have c32b1 : (t203 != 0) = false := bne_eq_false_iff_eq.mpr c32
                clear c32
                by_cases c33 : t204 = 1
                · rw [if_pos c33] at H
                  have c33b0 : (t204 == 1) = true := beq_iff_eq.mpr c33
                  have c33b1 : (t204 != 1) = false := bne_eq_false_iff_eq.mpr c33
                  clear c33
                  replace H := Option.bind_eq_some_iff.mp H
                  obtain ⟨t212, A340, H⟩ := H
                  replace H : (some t212) = some r := H
                  have A34 := Aside0.mk A340
                  clear A340
                  obtain rfl := Option.some.inj H
                  go_wp2_with (first | (go_at_call 21; (with_reducible refine (galloonlaw03_awake.calls kj28  t212 _ A34.out).mono ?_); rintro e w35 ⟨rfl, hb⟩; have n0_ := Aside0.mk (blk_below (g := gb200) (o := .cells #[.int .i64 t201, .int .i64 t202] 23 (0, 0)) (by (with_reducible repeat (first | refine blk_drewN ?_ _ | refine blk_drew ?_ | refine blk_alloc ?_ _)); exact BK200.out) hb); have n1_ := Aside0.mk (below_step (by repeat (first | (with_reducible first | exact HB.out | apply below_alloc | apply pw_below_drewN | apply below_drew1 | refine below_set ?_ GE200.out) | exact HB.out)) hb); clear BK200; clear HB; have BK200 := n0_; have HB := n1_; clear n0_ n1_; (try clear hb); (try clear hb2); (try clear hk); (try clear hi)))
                  go_ret
                  exact ⟨by first | rfl | (simp [errW_none, errW_some] <;> rfl) | (simp [*, errW_none, errW_some] <;> rfl), by repeat (first | (with_reducible first | exact HB.out | apply below_alloc | apply pw_below_drewN | apply below_drew1 | refine below_set ?_ GE200.out) | exact HB.out)⟩
                · rw [if_neg c33] at H
                  have c33b0 : (t204 == 1) = false := beq_eq_false_iff_ne.mpr c33
                  have c33b1 : (t204 != 1) = true := bne_iff_ne.mpr c33
                  obtain rfl := Option.some.inj H
                  exact absurd hr.out (by decide)
              · rw [if_neg c32] at H
                have c32b0 : (t203 == 0) = false := beq_eq_false_iff_ne.mpr c32
                have c32b1 : (t203 != 0) = true := bne_iff_ne.mpr c32
                obtain rfl := Option.some.inj H
                exact absurd hr.out (by decide)
            · replace c31 := Bool.eq_false_iff.mpr c31
              subst c31
              have H1 : (if t201 = 0 then (none) else ((yard_Saw.f kj28 (Int.tmod t202 t201) t201).bind fun bt213 => (if bt213.2.2 = 0 then (if bt213.2.1 < 1 then (some false) else (if bt213.2.1 > (wrap64 ((wrap64 (4 * t201)) * t201)) then (some false) else (if bt213.1 > (wrap64 (t201 * t201)) then (some false) else (if bt213.1 < (wrap64 ((wrap64 (-t201)) * t201)) then (some false) else (if t204 = 0 then (none) else (if (Int.tmod (wrap64 ((wrap64 (12 * t201)) * t202)) t204) = 0 then (if bt213.2.1 = 0 then (none) else (if (Int.tmod (wrap64 ((wrap64 (12 * t201)) * t202)) bt213.2.1) = 0 then (if (wrap64 ((wrap64 ((wrap64 (Int.tdiv (wrap64 ((wrap64 (12 * t201)) * t202)) t204)) * t203)) + (wrap64 ((wrap64 (Int.tdiv (wrap64 ((wrap64 (12 * t201)) * t202)) bt213.2.1)) * bt213.1)))) = (wrap64 ((wrap64 ((wrap64 ((wrap64 (t201 * t201)) + (wrap64 (t202 * t202)))) + 1)) - (wrap64 ((wrap64 (3 * t201)) * t202)))) then ((galloonlaw03_awake.f kj28).bind fun t216 => (some t216)) else (some false)) else (some false))) else (some false))))))) else (some false)))) = some r := by rw [if_neg (show ¬ (false = true) by decide)] at H; exact H
              clear H
              have H := H1
              clear H1
              by_cases c36 : t201 = 0
              · rw [if_pos c36] at H
                exact absurd H (by simp)
              · rw [if_neg c36] at H
                have c36b0 : (t201 == 0) = false := beq_eq_false_iff_ne.mpr c36
                have c36b1 : (t201 != 0) = true := bne_iff_ne.mpr c36
                replace H := Option.bind_eq_some_iff.mp H
                obtain ⟨⟨t213, t214, t215⟩, A370, H⟩ := H
                replace H : (if t215 = 0 then (if t214 < 1 then (some false) else (if t214 > (wrap64 ((wrap64 (4 * t201)) * t201)) then (some false) else (if t213 > (wrap64 (t201 * t201)) then (some false) else (if t213 < (wrap64 ((wrap64 (-t201)) * t201)) then (some false) else (if t204 = 0 then (none) else (if (Int.tmod (wrap64 ((wrap64 (12 * t201)) * t202)) t204) = 0 then (if t214 = 0 then (none) else (if (Int.tmod (wrap64 ((wrap64 (12 * t201)) * t202)) t214) = 0 then (if (wrap64 ((wrap64 ((wrap64 (Int.tdiv (wrap64 ((wrap64 (12 * t201)) * t202)) t204)) * t203)) + (wrap64 ((wrap64 (Int.tdiv (wrap64 ((wrap64 (12 * t201)) * t202)) t214)) * t213)))) = (wrap64 ((wrap64 ((wrap64 ((wrap64 (t201 * t201)) + (wrap64 (t202 * t202)))) + 1)) - (wrap64 ((wrap64 (3 * t201)) * t202)))) then ((galloonlaw03_awake.f kj28).bind fun t216 => (some t216)) else (some false)) else (some false))) else (some false))))))) else (some false)) = some r := H
                have A37 := Aside0.mk A370
                clear A370
                by_cases c38 : t215 = 0
                · rw [if_pos c38] at H
                  have c38b0 : (t215 == 0) = true := beq_iff_eq.mpr c38
                  have c38b1 : (t215 != 0) = false := bne_eq_false_iff_eq.mpr c38
                  clear c38
                  by_cases c39 : t214 < 1
                  · rw [if_pos c39] at H
                    have c39b0 : decide (t214 < 1) = true := decide_eq_true c39
                    clear c39
                    obtain rfl := Option.some.inj H
                    exact absurd hr.out (by decide)
                  · rw [if_neg c39] at H
                    have c39b0 : decide (t214 < 1) = false := decide_eq_false c39
                    clear c39
                    by_cases c40 : t214 > (wrap64 ((wrap64 (4 * t201)) * t201))
                    · rw [if_pos c40] at H
                      have c40b0 : decide ((wrap64 ((wrap64 (4 * t201)) * t201)) < t214) = true := decide_eq_true c40
                      clear c40
                      obtain rfl := Option.some.inj H
                      exact absurd hr.out (by decide)
                    · rw [if_neg c40] at H
                      have c40b0 : decide ((wrap64 ((wrap64 (4 * t201)) * t201)) < t214) = false := decide_eq_false c40
                      clear c40
                      by_cases c41 : t213 > (wrap64 (t201 * t201))
                      · rw [if_pos c41] at H
                        have c41b0 : decide ((wrap64 (t201 * t201)) < t213) = true := decide_eq_true c41
                        clear c41
                        obtain rfl := Option.some.inj H
                        exact absurd hr.out (by decide)
                      · rw [if_neg c41] at H
                        have c41b0 : decide ((wrap64 (t201 * t201)) < t213) = false := decide_eq_false c41
                        clear c41
                        by_cases c42 : t213 < (wrap64 ((wrap64 (-t201)) * t201))
                        · rw [if_pos c42] at H
                          have c42b0 : decide (t213 < (wrap64 ((wrap64 (-t201)) * t201))) = true := decide_eq_true c42
                          clear c42
                          obtain rfl := Option.some.inj H
                          exact absurd hr.out (by decide)
                        · rw [if_neg c42] at H
                          have c42b0 : decide (t213 < (wrap64 ((wrap64 (-t201)) * t201))) = false := decide_eq_false c42
                          clear c42
                          by_cases c43 : t204 = 0
                          · rw [if_pos c43] at H
                            exact absurd H (by simp)
                          · rw [if_neg c43] at H
                            have c43b0 : (t204 == 0) = false := beq_eq_false_iff_ne.mpr c43
                            have c43b1 : (t204 != 0) = true := bne_iff_ne.mpr c43
                            by_cases c44 : (Int.tmod (wrap64 ((wrap64 (12 * t201)) * t202)) t204) = 0
                            · rw [if_pos c44] at H
                              have c44b0 : ((Int.tmod (wrap64 ((wrap64 (12 * t201)) * t202)) t204) == 0) = true := beq_iff_eq.mpr c44
                              have c44b1 : ((Int.tmod (wrap64 ((wrap64 (12 * t201)) * t202)) t204) != 0) = false := bne_eq_false_iff_eq.mpr c44
                              clear c44
                              by_cases c45 : t214 = 0
                              · rw [if_pos c45] at H
                                exact absurd H (by simp)
                              · rw [if_neg c45] at H
                                have c45b0 : (t214 == 0) = false := beq_eq_false_iff_ne.mpr c45
                                have c45b1 : (t214 != 0) = true := bne_iff_ne.mpr c45
                                by_cases c46 : (Int.tmod (wrap64 ((wrap64 (12 * t201)) * t202)) t214) = 0
                                · rw [if_pos c46] at H
                                  have c46b0 : ((Int.tmod (wrap64 ((wrap64 (12 * t201)) * t202)) t214) == 0) = true := beq_iff_eq.mpr c46
                                  have c46b1 : ((Int.tmod (wrap64 ((wrap64 (12 * t201)) * t202)) t214) != 0) = false := bne_eq_false_iff_eq.mpr c46
                                  clear c46
                                  by_cases c47 : (wrap64 ((wrap64 ((wrap64 (Int.tdiv (wrap64 ((wrap64 (12 * t201)) * t202)) t204)) * t203)) + (wrap64 ((wrap64 (Int.tdiv (wrap64 ((wrap64 (12 * t201)) * t202)) t214)) * t213)))) = (wrap64 ((wrap64 ((wrap64 ((wrap64 (t201 * t201)) + (wrap64 (t202 * t202)))) + 1)) - (wrap64 ((wrap64 (3 * t201)) * t202))))
                                  · rw [if_pos c47] at H
                                    have c47b0 : ((wrap64 ((wrap64 ((wrap64 (Int.tdiv (wrap64 ((wrap64 (12 * t201)) * t202)) t204)) * t203)) + (wrap64 ((wrap64 (Int.tdiv (wrap64 ((wrap64 (12 * t201)) * t202)) t214)) * t213)))) == (wrap64 ((wrap64 ((wrap64 ((wrap64 (t201 * t201)) + (wrap64 (t202 * t202)))) + 1)) - (wrap64 ((wrap64 (3 * t201)) * t202))))) = true := beq_iff_eq.mpr c47
                                    have c47b1 : ((wrap64 ((wrap64 ((wrap64 (Int.tdiv (wrap64 ((wrap64 (12 * t201)) * t202)) t204)) * t203)) + (wrap64 ((wrap64 (Int.tdiv (wrap64 ((wrap64 (12 * t201)) * t202)) t214)) * t213)))) != (wrap64 ((wrap64 ((wrap64 ((wrap64 (t201 * t201)) + (wrap64 (t202 * t202)))) + 1)) - (wrap64 ((wrap64 (3 * t201)) * t202))))) = false := bne_eq_false_iff_eq.mpr c47
                                    clear c47
                                    replace H := Option.bind_eq_some_iff.mp H
                                    obtain ⟨t216, A480, H⟩ := H
                                    replace H : (some t216) = some r := H
                                    have A48 := Aside0.mk A480
                                    clear A480
                                    obtain rfl := Option.some.inj H
                                    try go_wp2_with (first | ((with_reducible refine gate_callee (f := 19) rfl ?_); refine goesL_ (some 108) rfl rfl Try.func19 (by kernel_rfl) rfl #[.agg #[.int .i64 (Int.tmod t202 t201), .int .i64 t201]] rfl (by (try simp only [List.map_toArray, List.map_cons, List.map_nil]); first | done | rfl | (simp only [List.length_drop, List.length_take]; rfl)) ?_; (with_reducible refine (yard_Saw.calls kj28 (Int.tmod t202 t201) t201 t213 t214 t215 _ A37.out).mono ?_); rintro e w49 ⟨rfl, hb⟩; refine ⟨_, rfl, ?_⟩; have n0_ := Aside0.mk (blk_below (g := gb200) (o := .cells #[.int .i64 t201, .int .i64 t202] 23 (0, 0)) (by (with_reducible repeat (first | refine blk_drewN ?_ _ | refine blk_drew ?_ | refine blk_alloc ?_ _)); exact BK200.out) hb); have n1_ := Aside0.mk (below_step (by repeat (first | (with_reducible first | exact HB.out | apply below_alloc | apply pw_below_drewN | apply below_drew1 | refine below_set ?_ GE200.out) | exact HB.out)) hb); clear BK200; clear HB; have BK200 := n0_; have HB := n1_; clear n0_ n1_; (try clear hb); (try clear hb2); (try clear hk); (try clear hi)))
                                    have n0_ := Aside0.mk (blk_drew BK200.out)
                                    have n1_ := Aside0.mk (below_drew1 HB.out)
                                    clear BK200
                                    clear HB
                                    have BK200 := n0_
                                    have HB := n1_
                                    clear n0_ n1_
                                    refine start_ (n := 53) (S := fun w' => True) (ds := []) #[false, false, false, false, false, false, false, false, false, false, false, false, false, false, false, false, false, false, false, false, false, false, false, false, false, false, false, false, false, false, false, false, false, false, false, false, false, false, false, false, false, false, false, false, false, false, false, false, false, false, false, false, false] (by kernel_rfl) rfl rfl trivial (fun hHeld => ?_); refine with_tabW galloonlaw03_YardSaws.tab12 galloonlaw03_YardSaws.bits12 (fun HT_ HW_ => ?_)
                                    generalize w49.drew = w50 at BK200 HB hHeld ⊢
                                    refine pure_ (i := 0) (N := some 141) (v := ?_) (a' := ?_) #[true, false, false, false, false, false, false, false, false, false, false, false, false, false, false, false, false, false, false, false, false, false, false, false, false, false, false, false, false, false, false, false, false, false, false, false, false, false, false, false, false, false, false, false, false, false, false, false, false, false, false, false, false] rfl rfl (any_of HT_.out (by kernel_rfl)) (fun _ _ _ h => h) (Or.inl ⟨by rfl, ?_⟩) ?_ ?_
                                    rotate_left
                                    · intro w'
                                      go_simp
                                      with_reducible rfl
                                    rotate_left
                                    · simp only [Act.put, List.setIfInBounds_toArray, List.set_cons_zero, List.set_cons_succ, i64_w, i32_w]
                                      rfl
                                    refine pure_ (i := 1) (N := some 142) (v := ?_) (a' := ?_) #[true, true, false, false, false, false, false, false, false, false, false, false, false, false, false, false, false, false, false, false, false, false, false, false, false, false, false, false, false, false, false, false, false, false, false, false, false, false, false, false, false, false, false, false, false, false, false, false, false, false, false, false, false] rfl rfl (any_of HT_.out (by kernel_rfl)) (fun _ _ _ h => h) (Or.inl ⟨by rfl, ?_⟩) ?_ ?_
                                    rotate_left
                                    · intro w'
                                      go_simp
                                      with_reducible rfl
                                    rotate_left
                                    · simp only [Act.put, List.setIfInBounds_toArray, List.set_cons_zero, List.set_cons_succ, i64_w, i32_w]
                                      rfl
                                    refine pure_ (i := 2) (N := some 143) (v := ?_) (a' := ?_) #[true, true, true, false, false, false, false, false, false, false, false, false, false, false, false, false, false, false, false, false, false, false, false, false, false, false, false, false, false, false, false, false, false, false, false, false, false, false, false, false, false, false, false, false, false, false, false, false, false, false, false, false, false] rfl rfl (any_of HT_.out (by kernel_rfl)) (fun _ _ _ h => h) (Or.inl ⟨by rfl, ?_⟩) ?_ ?_
                                    rotate_left
                                    · intro w'
                                      go_simp
                                      with_reducible rfl
                                    rotate_left
                                    · simp only [Act.put, List.setIfInBounds_toArray, List.set_cons_zero, List.set_cons_succ, i64_w, i32_w]
                                      rfl
                                    refine pure_ (i := 3) (N := some 144) (v := ?_) (a' := ?_) #[true, true, true, true, false, false, false, false, false, false, false, false, false, false, false, false, false, false, false, false, false, false, false, false, false, false, false, false, false, false, false, false, false, false, false, false, false, false, false, false, false, false, false, false, false, false, false, false, false, false, false, false, false] rfl rfl (any_of HT_.out (by kernel_rfl)) (fun _ _ _ h => h) (Or.inl ⟨by rfl, ?_⟩) ?_ ?_
                                    rotate_left
                                    · intro w'
                                      go_simp
                                      with_reducible rfl
                                    rotate_left
                                    · simp only [Act.put, List.setIfInBounds_toArray, List.set_cons_zero, List.set_cons_succ, i64_w, i32_w]
                                      rfl
                                    refine pure_ (i := 4) (N := some 145) (v := ?_) (a' := ?_) #[true, true, true, true, true, false, false, false, false, false, false, false, false, false, false, false, false, false, false, false, false, false, false, false, false, false, false, false, false, false, false, false, false, false, false, false, false, false, false, false, false, false, false, false, false, false, false, false, false, false, false, false, false] rfl rfl (any_of HT_.out (by kernel_rfl)) (fun _ _ _ h => h) (Or.inl ⟨by rfl, ?_⟩) ?_ ?_
                                    rotate_left
                                    · intro w'
                                      go_simp
                                      with_reducible rfl
                                    rotate_left
                                    · simp only [Act.put, List.setIfInBounds_toArray, List.set_cons_zero, List.set_cons_succ, i64_w, i32_w]
                                      rfl
                                    refine pure_ (i := 5) (N := some 146) (v := ?_) (a' := ?_) #[true, true, true, true, true, true, false, false, false, false, false, false, false, false, false, false, false, false, false, false, false, false, false, false, false, false, false, false, false, false, false, false, false, false, false, false, false, false, false, false, false, false, false, false, false, false, false, false, false, false, false, false, false] rfl rfl (any_of HT_.out (by kernel_rfl)) (fun _ _ _ h => h) (Or.inl ⟨by rfl, ?_⟩) ?_ ?_
                                    rotate_left
                                    · intro w'
                                      go_simp
                                      with_reducible rfl
                                    rotate_left
                                    · simp only [Act.put, List.setIfInBounds_toArray, List.set_cons_zero, List.set_cons_succ, i64_w, i32_w]
                                      rfl
                                    refine pure_ (i := 6) (N := some 147) (v := ?_) (a' := ?_) #[true, true, true, true, true, true, true, false, false, false, false, false, false, false, false, false, false, false, false, false, false, false, false, false, false, false, false, false, false, false, false, false, false, false, false, false, false, false, false, false, false, false, false, false, false, false, false, false, false, false, false, false, false] rfl rfl (any_of HT_.out (by kernel_rfl)) (fun _ _ _ h => h) (Or.inl ⟨by rfl, ?_⟩) ?_ ?_
                                    rotate_left
                                    · intro w'
                                      go_simp
                                      with_reducible rfl
                                    rotate_left
                                    · simp only [Act.put, List.setIfInBounds_toArray, List.set_cons_zero, List.set_cons_succ, i64_w, i32_w]
                                      rfl
                                    refine pure_ (i := 7) (N := some 148) (v := ?_) (a' := ?_) #[true, true, true, true, true, true, true, true, false, false, false, false, false, false, false, false, false, false, false, false, false, false, false, false, false, false, false, false, false, false, false, false, false, false, false, false, false, false, false, false, false, false, false, false, false, false, false, false, false, false, false, false, false] rfl rfl (any_of HT_.out (by kernel_rfl)) (fun _ _ _ h => h) (Or.inl ⟨by rfl, ?_⟩) ?_ ?_
                                    rotate_left
                                    · intro w'
                                      go_simp
                                      with_reducible rfl
                                    rotate_left
                                    · simp only [Act.put, List.setIfInBounds_toArray, List.set_cons_zero, List.set_cons_succ, i64_w, i32_w]
                                      rfl
                                    refine pure_ (i := 8) (N := some 149) (v := ?_) (a' := ?_) #[true, true, true, true, true, true, true, true, true, false, false, false, false, false, false, false, false, false, false, false, false, false, false, false, false, false, false, false, false, false, false, false, false, false, false, false, false, false, false, false, false, false, false, false, false, false, false, false, false, false, false, false, false] rfl rfl (any_of HT_.out (by kernel_rfl)) (fun _ _ _ h => h) (Or.inl ⟨by rfl, ?_⟩) ?_ ?_
                                    rotate_left
                                    · intro w'
                                      go_simp
                                      with_reducible rfl
                                    rotate_left
                                    · simp only [Act.put, List.setIfInBounds_toArray, List.set_cons_zero, List.set_cons_succ, i64_w, i32_w]
                                      rfl
                                    refine pure_ (i := 9) (N := some 150) (v := ?_) (a' := ?_) #[true, true, true, true, true, true, true, true, true, true, false, false, false, false, false, false, false, false, false, false, false, false, false, false, false, false, false, false, false, false, false, false, false, false, false, false, false, false, false, false, false, false, false, false, false, false, false, false, false, false, false, false, false] rfl rfl (any_of HT_.out (by kernel_rfl)) (fun _ _ _ h => h) (Or.inl ⟨by rfl, ?_⟩) ?_ ?_
                                    rotate_left
                                    · intro w'
                                      go_simp
                                      with_reducible rfl
                                    rotate_left
                                    · simp only [Act.put, List.setIfInBounds_toArray, List.set_cons_zero, List.set_cons_succ, i64_w, i32_w]
                                      rfl
                                    refine pure_ (i := 10) (N := some 151) (v := ?_) (a' := ?_) #[true, true, true, true, true, true, true, true, true, true, true, false, false, false, false, false, false, false, false, false, false, false, false, false, false, false, false, false, false, false, false, false, false, false, false, false, false, false, false, false, false, false, false, false, false, false, false, false, false, false, false, false, false] rfl rfl (any_of HT_.out (by kernel_rfl)) (fun _ _ _ h => h) (Or.inl ⟨by rfl, ?_⟩) ?_ ?_
                                    rotate_left
                                    · intro w'
                                      go_simp
                                      with_reducible rfl
                                    rotate_left
                                    · simp only [Act.put, List.setIfInBounds_toArray, List.set_cons_zero, List.set_cons_succ, i64_w, i32_w]
                                      rfl
                                    refine pure_ (i := 11) (N := some 152) (v := ?_) (a' := ?_) #[true, true, true, true, true, true, true, true, true, true, true, true, false, false, false, false, false, false, false, false, false, false, false, false, false, false, false, false, false, false, false, false, false, false, false, false, false, false, false, false, false, false, false, false, false, false, false, false, false, false, false, false, false] rfl rfl (any_of HT_.out (by kernel_rfl)) (fun _ _ _ h => h) (Or.inl ⟨by rfl, ?_⟩) ?_ ?_
                                    rotate_left
                                    · intro w'
                                      go_simp
                                      with_reducible rfl
                                    rotate_left
                                    · simp only [Act.put, List.setIfInBounds_toArray, List.set_cons_zero, List.set_cons_succ, i64_w, i32_w]
                                      rfl
                                    refine pure_ (i := 12) (N := some 153) (v := ?_) (a' := ?_) #[true, true, true, true, true, true, true, true, true, true, true, true, true, false, false, false, false, false, false, false, false, false, false, false, false, false, false, false, false, false, false, false, false, false, false, false, false, false, false, false, false, false, false, false, false, false, false, false, false, false, false, false, false] rfl rfl (any_of HT_.out (by kernel_rfl)) (fun _ _ _ h => h) (Or.inl ⟨by rfl, ?_⟩) ?_ ?_
                                    rotate_left
                                    · intro w'
                                      go_simp
                                      with_reducible rfl
                                    rotate_left
                                    · simp only [Act.put, List.setIfInBounds_toArray, List.set_cons_zero, List.set_cons_succ, i64_w, i32_w]
                                      rfl
                                    refine pure_ (i := 13) (N := some 154) (v := ?_) (a' := ?_) #[true, true, true, true, true, true, true, true, true, true, true, true, true, true, false, false, false, false, false, false, false, false, false, false, false, false, false, false, false, false, false, false, false, false, false, false, false, false, false, false, false, false, false, false, false, false, false, false, false, false, false, false, false] rfl rfl (any_of HT_.out (by kernel_rfl)) (fun _ _ _ h => h) (Or.inl ⟨by rfl, ?_⟩) ?_ ?_
                                    rotate_left
                                    · intro w'
                                      go_simp
                                      with_reducible rfl
                                    rotate_left
                                    · simp only [Act.put, List.setIfInBounds_toArray, List.set_cons_zero, List.set_cons_succ, i64_w, i32_w]
                                      rfl
                                    refine pure_ (i := 14) (N := some 155) (v := ?_) (a' := ?_) #[true, true, true, true, true, true, true, true, true, true, true, true, true, true, true, false, false, false, false, false, false, false, false, false, false, false, false, false, false, false, false, false, false, false, false, false, false, false, false, false, false, false, false, false, false, false, false, false, false, false, false, false, false] rfl rfl (any_of HT_.out (by kernel_rfl)) (fun _ _ _ h => h) (Or.inl ⟨by rfl, ?_⟩) ?_ ?_
                                    rotate_left
                                    · intro w'
                                      go_simp
                                      with_reducible rfl
                                    rotate_left
                                    · simp only [Act.put, List.setIfInBounds_toArray, List.set_cons_zero, List.set_cons_succ, i64_w, i32_w]
                                      rfl
                                    refine pure_ (i := 15) (N := some 156) (v := ?_) (a' := ?_) #[true, true, true, true, true, true, true, true, true, true, true, true, true, true, true, true, false, false, false, false, false, false, false, false, false, false, false, false, false, false, false, false, false, false, false, false, false, false, false, false, false, false, false, false, false, false, false, false, false, false, false, false, false] rfl rfl (any_of HT_.out (by kernel_rfl)) (fun _ _ _ h => h) (Or.inl ⟨by rfl, ?_⟩) ?_ ?_
                                    rotate_left
                                    · intro w'
                                      go_simp
                                      with_reducible rfl
                                    rotate_left
                                    · simp only [Act.put, List.setIfInBounds_toArray, List.set_cons_zero, List.set_cons_succ, i64_w, i32_w]
                                      rfl
                                    refine pure_ (i := 16) (N := some 157) (v := ?_) (a' := ?_) #[true, true, true, true, true, true, true, true, true, true, true, true, true, true, true, true, true, false, false, false, false, false, false, false, false, false, false, false, false, false, false, false, false, false, false, false, false, false, false, false, false, false, false, false, false, false, false, false, false, false, false, false, false] rfl rfl (any_of HT_.out (by kernel_rfl)) (fun _ _ _ h => h) (Or.inl ⟨by rfl, ?_⟩) ?_ ?_
                                    rotate_left
                                    · intro w'
                                      go_simp
                                      with_reducible rfl
                                    rotate_left
                                    · simp only [Act.put, List.setIfInBounds_toArray, List.set_cons_zero, List.set_cons_succ, i64_w, i32_w]
                                      rfl
                                    refine pure_ (i := 17) (N := some 158) (v := ?_) (a' := ?_) #[true, true, true, true, true, true, true, true, true, true, true, true, true, true, true, true, true, true, false, false, false, false, false, false, false, false, false, false, false, false, false, false, false, false, false, false, false, false, false, false, false, false, false, false, false, false, false, false, false, false, false, false, false] rfl rfl (any_of HT_.out (by kernel_rfl)) (fun _ _ _ h => h) (Or.inl ⟨by rfl, ?_⟩) ?_ ?_
                                    rotate_left
                                    · intro w'
                                      go_simp
                                      with_reducible rfl
                                    rotate_left
                                    · simp only [Act.put, List.setIfInBounds_toArray, List.set_cons_zero, List.set_cons_succ, i64_w, i32_w]
                                      rfl
                                    refine pure_ (i := 18) (N := some 159) (v := ?_) (a' := ?_) #[true, true, true, true, true, true, true, true, true, true, true, true, true, true, true, true, true, true, true, false, false, false, false, false, false, false, false, false, false, false, false, false, false, false, false, false, false, false, false, false, false, false, false, false, false, false, false, false, false, false, false, false, false] rfl rfl (any_of HT_.out (by kernel_rfl)) (fun _ _ _ h => h) (Or.inl ⟨by rfl, ?_⟩) ?_ ?_
                                    rotate_left
                                    · intro w'
                                      go_simp
                                      with_reducible rfl
                                    rotate_left
                                    · simp only [Act.put, List.setIfInBounds_toArray, List.set_cons_zero, List.set_cons_succ, i64_w, i32_w]
                                      rfl
                                    refine pure_ (i := 19) (N := some 160) (v := ?_) (a' := ?_) #[true, true, true, true, true, true, true, true, true, true, true, true, true, true, true, true, true, true, true, true, false, false, false, false, false, false, false, false, false, false, false, false, false, false, false, false, false, false, false, false, false, false, false, false, false, false, false, false, false, false, false, false, false] rfl rfl (any_of HT_.out (by kernel_rfl)) (fun _ _ _ h => h) (Or.inl ⟨by rfl, ?_⟩) ?_ ?_
                                    rotate_left
                                    · intro w'
                                      go_simp
                                      with_reducible rfl
                                    rotate_left
                                    · simp only [Act.put, List.setIfInBounds_toArray, List.set_cons_zero, List.set_cons_succ, i64_w, i32_w]
                                      rfl
                                    refine pure_ (i := 20) (N := some 161) (v := ?_) (a' := ?_) #[true, true, true, true, true, true, true, true, true, true, true, true, true, true, true, true, true, true, true, true, true, false, false, false, false, false, false, false, false, false, false, false, false, false, false, false, false, false, false, false, false, false, false, false, false, false, false, false, false, false, false, false, false] rfl rfl (any_of HT_.out (by kernel_rfl)) (fun _ _ _ h => h) (Or.inl ⟨by rfl, ?_⟩) ?_ ?_
                                    rotate_left
                                    · intro w'
                                      go_simp
                                      with_reducible rfl
                                    rotate_left
                                    · simp only [Act.put, List.setIfInBounds_toArray, List.set_cons_zero, List.set_cons_succ, i64_w, i32_w]
                                      rfl
                                    refine pure_ (i := 21) (N := some 162) (v := ?_) (a' := ?_) #[true, true, true, true, true, true, true, true, true, true, true, true, true, true, true, true, true, true, true, true, true, true, false, false, false, false, false, false, false, false, false, false, false, false, false, false, false, false, false, false, false, false, false, false, false, false, false, false, false, false, false, false, false] rfl rfl (any_of HT_.out (by kernel_rfl)) (fun _ _ _ h => h) (Or.inl ⟨by rfl, ?_⟩) ?_ ?_
                                    rotate_left
                                    · intro w'
                                      go_simp
                                      with_reducible rfl
                                    rotate_left
                                    · simp only [Act.put, List.setIfInBounds_toArray, List.set_cons_zero, List.set_cons_succ, i64_w, i32_w]
                                      rfl
                                    refine pure_ (i := 22) (N := some 163) (v := ?_) (a' := ?_) #[true, true, true, true, true, true, true, true, true, true, true, true, true, true, true, true, true, true, true, true, true, true, true, false, false, false, false, false, false, false, false, false, false, false, false, false, false, false, false, false, false, false, false, false, false, false, false, false, false, false, false, false, false] rfl rfl (any_of HT_.out (by kernel_rfl)) (fun _ _ _ h => h) (Or.inl ⟨by rfl, ?_⟩) ?_ ?_
                                    rotate_left
                                    · intro w'
                                      go_simp
                                      with_reducible rfl
                                    rotate_left
                                    · simp only [Act.put, List.setIfInBounds_toArray, List.set_cons_zero, List.set_cons_succ, i64_w, i32_w]
                                      rfl
                                    refine pure_ (i := 23) (N := some 164) (v := ?_) (a' := ?_) #[true, true, true, true, true, true, true, true, true, true, true, true, true, true, true, true, true, true, true, true, true, true, true, true, false, false, false, false, false, false, false, false, false, false, false, false, false, false, false, false, false, false, false, false, false, false, false, false, false, false, false, false, false] rfl rfl (any_of HT_.out (by kernel_rfl)) (fun _ _ _ h => h) (Or.inl ⟨by rfl, ?_⟩) ?_ ?_
                                    rotate_left
                                    · intro w'
                                      go_simp
                                      with_reducible rfl
                                    rotate_left
                                    · simp only [Act.put, List.setIfInBounds_toArray, List.set_cons_zero, List.set_cons_succ, i64_w, i32_w]
                                      rfl
                                    refine pure_ (i := 24) (N := some 165) (v := ?_) (a' := ?_) #[true, true, true, true, true, true, true, true, true, true, true, true, true, true, true, true, true, true, true, true, true, true, true, true, true, false, false, false, false, false, false, false, false, false, false, false, false, false, false, false, false, false, false, false, false, false, false, false, false, false, false, false, false] rfl rfl (any_of HT_.out (by kernel_rfl)) (fun _ _ _ h => h) (Or.inl ⟨by rfl, ?_⟩) ?_ ?_
                                    rotate_left
                                    · intro w'
                                      go_simp
                                      with_reducible rfl
                                    rotate_left
                                    · simp only [Act.put, List.setIfInBounds_toArray, List.set_cons_zero, List.set_cons_succ, i64_w, i32_w]
                                      rfl
                                    refine pure_ (i := 25) (N := some 166) (v := ?_) (a' := ?_) #[true, true, true, true, true, true, true, true, true, true, true, true, true, true, true, true, true, true, true, true, true, true, true, true, true, true, false, false, false, false, false, false, false, false, false, false, false, false, false, false, false, false, false, false, false, false, false, false, false, false, false, false, false] rfl rfl (any_of HT_.out (by kernel_rfl)) (fun _ _ _ h => h) (Or.inl ⟨by rfl, ?_⟩) ?_ ?_
                                    rotate_left
                                    · intro w'
                                      go_simp
                                      with_reducible rfl
                                    rotate_left
                                    · simp only [Act.put, List.setIfInBounds_toArray, List.set_cons_zero, List.set_cons_succ, i64_w, i32_w]
                                      rfl
                                    refine pure_ (i := 26) (N := some 167) (v := ?_) (a' := ?_) #[true, true, true, true, true, true, true, true, true, true, true, true, true, true, true, true, true, true, true, true, true, true, true, true, true, true, true, false, false, false, false, false, false, false, false, false, false, false, false, false, false, false, false, false, false, false, false, false, false, false, false, false, false] rfl rfl (any_of HT_.out (by kernel_rfl)) (fun _ _ _ h => h) (Or.inl ⟨by rfl, ?_⟩) ?_ ?_
                                    rotate_left
                                    · intro w'
                                      go_simp
                                      with_reducible rfl
                                    rotate_left
                                    · simp only [Act.put, List.setIfInBounds_toArray, List.set_cons_zero, List.set_cons_succ, i64_w, i32_w]
                                      rfl
                                    refine pure_ (i := 27) (N := some 168) (v := ?_) (a' := ?_) #[true, true, true, true, true, true, true, true, true, true, true, true, true, true, true, true, true, true, true, true, true, true, true, true, true, true, true, true, false, false, false, false, false, false, false, false, false, false, false, false, false, false, false, false, false, false, false, false, false, false, false, false, false] rfl rfl (any_of HT_.out (by kernel_rfl)) (fun _ _ _ h => h) (Or.inl ⟨by rfl, ?_⟩) ?_ ?_
                                    rotate_left
                                    · intro w'
                                      go_simp
                                      with_reducible rfl
                                    rotate_left
                                    · simp only [Act.put, List.setIfInBounds_toArray, List.set_cons_zero, List.set_cons_succ, i64_w, i32_w]
                                      rfl
                                    refine pure_ (i := 28) (N := some 169) (v := ?_) (a' := ?_) #[true, true, true, true, true, true, true, true, true, true, true, true, true, true, true, true, true, true, true, true, true, true, true, true, true, true, true, true, true, false, false, false, false, false, false, false, false, false, false, false, false, false, false, false, false, false, false, false, false, false, false, false, false] rfl rfl (any_of HT_.out (by kernel_rfl)) (fun _ _ _ h => h) (Or.inl ⟨by rfl, ?_⟩) ?_ ?_
                                    rotate_left
                                    · intro w'
                                      go_simp
                                      with_reducible rfl
                                    rotate_left
                                    · simp only [Act.put, List.setIfInBounds_toArray, List.set_cons_zero, List.set_cons_succ, i64_w, i32_w]
                                      rfl
                                    refine pure_ (i := 29) (N := some 170) (v := ?_) (a' := ?_) #[true, true, true, true, true, true, true, true, true, true, true, true, true, true, true, true, true, true, true, true, true, true, true, true, true, true, true, true, true, true, false, false, false, false, false, false, false, false, false, false, false, false, false, false, false, false, false, false, false, false, false, false, false] rfl rfl (any_of HT_.out (by kernel_rfl)) (fun _ _ _ h => h) (Or.inl ⟨by rfl, ?_⟩) ?_ ?_
                                    rotate_left
                                    · intro w'
                                      go_simp
                                      with_reducible rfl
                                    rotate_left
                                    · simp only [Act.put, List.setIfInBounds_toArray, List.set_cons_zero, List.set_cons_succ, i64_w, i32_w]
                                      rfl
                                    refine pure_ (i := 30) (N := some 171) (v := ?_) (a' := ?_) #[true, true, true, true, true, true, true, true, true, true, true, true, true, true, true, true, true, true, true, true, true, true, true, true, true, true, true, true, true, true, true, false, false, false, false, false, false, false, false, false, false, false, false, false, false, false, false, false, false, false, false, false, false] rfl rfl (any_of HT_.out (by kernel_rfl)) (fun _ _ _ h => h) (Or.inl ⟨by rfl, ?_⟩) ?_ ?_
                                    rotate_left
                                    · intro w'
                                      go_simp
                                      with_reducible rfl
                                    rotate_left
                                    · simp only [Act.put, List.setIfInBounds_toArray, List.set_cons_zero, List.set_cons_succ, i64_w, i32_w]
                                      rfl
                                    refine pure_ (i := 31) (N := some 172) (v := ?_) (a' := ?_) #[true, true, true, true, true, true, true, true, true, true, true, true, true, true, true, true, true, true, true, true, true, true, true, true, true, true, true, true, true, true, true, true, false, false, false, false, false, false, false, false, false, false, false, false, false, false, false, false, false, false, false, false, false] rfl rfl (any_of HT_.out (by kernel_rfl)) (fun _ _ _ h => h) (Or.inl ⟨by rfl, ?_⟩) ?_ ?_
                                    rotate_left
                                    · intro w'
                                      go_simp
                                      with_reducible rfl
                                    rotate_left
                                    · simp only [Act.put, List.setIfInBounds_toArray, List.set_cons_zero, List.set_cons_succ, i64_w, i32_w]
                                      rfl
                                    refine pure_ (i := 32) (N := some 173) (v := ?_) (a' := ?_) #[true, true, true, true, true, true, true, true, true, true, true, true, true, true, true, true, true, true, true, true, true, true, true, true, true, true, true, true, true, true, true, true, true, false, false, false, false, false, false, false, false, false, false, false, false, false, false, false, false, false, false, false, false] rfl rfl (any_of HT_.out (by kernel_rfl)) (fun _ _ _ h => h) (Or.inl ⟨by rfl, ?_⟩) ?_ ?_
                                    rotate_left
                                    · intro w'
                                      go_simp
                                      with_reducible rfl
                                    rotate_left
                                    · simp only [Act.put, List.setIfInBounds_toArray, List.set_cons_zero, List.set_cons_succ, i64_w, i32_w]
                                      rfl
                                    refine pure_ (i := 33) (N := some 174) (v := ?_) (a' := ?_) #[true, true, true, true, true, true, true, true, true, true, true, true, true, true, true, true, true, true, true, true, true, true, true, true, true, true, true, true, true, true, true, true, true, true, false, false, false, false, false, false, false, false, false, false, false, false, false, false, false, false, false, false, false] rfl rfl (any_of HT_.out (by kernel_rfl)) (fun _ _ _ h => h) (Or.inl ⟨by rfl, ?_⟩) ?_ ?_
                                    rotate_left
                                    · intro w'
                                      go_simp
                                      with_reducible rfl
                                    rotate_left
                                    · simp only [Act.put, List.setIfInBounds_toArray, List.set_cons_zero, List.set_cons_succ, i64_w, i32_w]
                                      rfl
                                    refine pure_ (i := 34) (N := some 175) (v := ?_) (a' := ?_) #[true, true, true, true, true, true, true, true, true, true, true, true, true, true, true, true, true, true, true, true, true, true, true, true, true, true, true, true, true, true, true, true, true, true, true, false, false, false, false, false, false, false, false, false, false, false, false, false, false, false, false, false, false] rfl rfl (any_of HT_.out (by kernel_rfl)) (fun _ _ _ h => h) (Or.inl ⟨by rfl, ?_⟩) ?_ ?_
                                    rotate_left
                                    · intro w'
                                      go_simp
                                      with_reducible rfl
                                    rotate_left
                                    · simp only [Act.put, List.setIfInBounds_toArray, List.set_cons_zero, List.set_cons_succ, i64_w, i32_w]
                                      rfl
                                    refine pure_ (i := 35) (N := some 176) (v := ?_) (a' := ?_) #[true, true, true, true, true, true, true, true, true, true, true, true, true, true, true, true, true, true, true, true, true, true, true, true, true, true, true, true, true, true, true, true, true, true, true, true, false, false, false, false, false, false, false, false, false, false, false, false, false, false, false, false, false] rfl rfl (any_of HT_.out (by kernel_rfl)) (fun _ _ _ h => h) (Or.inl ⟨by rfl, ?_⟩) ?_ ?_
                                    rotate_left
                                    · intro w'
                                      go_simp
                                      with_reducible rfl
                                    rotate_left
                                    · simp only [Act.put, List.setIfInBounds_toArray, List.set_cons_zero, List.set_cons_succ, i64_w, i32_w]
                                      rfl
                                    refine pure_ (i := 36) (N := some 177) (v := ?_) (a' := ?_) #[true, true, true, true, true, true, true, true, true, true, true, true, true, true, true, true, true, true, true, true, true, true, true, true, true, true, true, true, true, true, true, true, true, true, true, true, true, false, false, false, false, false, false, false, false, false, false, false, false, false, false, false, false] rfl rfl (any_of HT_.out (by kernel_rfl)) (fun _ _ _ h => h) (Or.inl ⟨by rfl, ?_⟩) ?_ ?_
                                    rotate_left
                                    · intro w'
                                      go_simp
                                      with_reducible rfl
                                    rotate_left
                                    · simp only [Act.put, List.setIfInBounds_toArray, List.set_cons_zero, List.set_cons_succ, i64_w, i32_w]
                                      rfl
                                    refine pure_ (i := 37) (N := some 178) (v := ?_) (a' := ?_) #[true, true, true, true, true, true, true, true, true, true, true, true, true, true, true, true, true, true, true, true, true, true, true, true, true, true, true, true, true, true, true, true, true, true, true, true, true, true, false, false, false, false, false, false, false, false, false, false, false, false, false, false, false] rfl rfl (any_of HT_.out (by kernel_rfl)) (fun _ _ _ h => h) (Or.inl ⟨by rfl, ?_⟩) ?_ ?_
                                    rotate_left
                                    · intro w'
                                      go_simp
                                      with_reducible rfl
                                    rotate_left
                                    · simp only [Act.put, List.setIfInBounds_toArray, List.set_cons_zero, List.set_cons_succ, i64_w, i32_w]
                                      rfl
                                    refine pure_ (i := 38) (N := some 179) (v := ?_) (a' := ?_) #[true, true, true, true, true, true, true, true, true, true, true, true, true, true, true, true, true, true, true, true, true, true, true, true, true, true, true, true, true, true, true, true, true, true, true, true, true, true, true, false, false, false, false, false, false, false, false, false, false, false, false, false, false] rfl rfl (any_of HT_.out (by kernel_rfl)) (fun _ _ _ h => h) (Or.inl ⟨by rfl, ?_⟩) ?_ ?_
                                    rotate_left
                                    · intro w'
                                      go_simp
                                      with_reducible rfl
                                    rotate_left
                                    · simp only [Act.put, List.setIfInBounds_toArray, List.set_cons_zero, List.set_cons_succ, i64_w, i32_w]
                                      rfl
                                    refine pure_ (i := 39) (N := some 180) (v := ?_) (a' := ?_) #[true, true, true, true, true, true, true, true, true, true, true, true, true, true, true, true, true, true, true, true, true, true, true, true, true, true, true, true, true, true, true, true, true, true, true, true, true, true, true, true, false, false, false, false, false, false, false, false, false, false, false, false, false] rfl rfl (any_of HT_.out (by kernel_rfl)) (fun _ _ _ h => h) (Or.inl ⟨by rfl, ?_⟩) ?_ ?_
                                    rotate_left
                                    · intro w'
                                      go_simp
                                      with_reducible rfl
                                    rotate_left
                                    · simp only [Act.put, List.setIfInBounds_toArray, List.set_cons_zero, List.set_cons_succ, i64_w, i32_w]
                                      rfl
                                    refine pure_ (i := 40) (N := some 181) (v := ?_) (a' := ?_) #[true, true, true, true, true, true, true, true, true, true, true, true, true, true, true, true, true, true, true, true, true, true, true, true, true, true, true, true, true, true, true, true, true, true, true, true, true, true, true, true, true, false, false, false, false, false, false, false, false, false, false, false, false] rfl rfl (any_of HT_.out (by kernel_rfl)) (fun _ _ _ h => h) (Or.inl ⟨by rfl, ?_⟩) ?_ ?_
                                    rotate_left
                                    · intro w'
                                      go_simp
                                      with_reducible rfl
                                    rotate_left
                                    · simp only [Act.put, List.setIfInBounds_toArray, List.set_cons_zero, List.set_cons_succ, i64_w, i32_w]
                                      rfl
                                    refine pure_ (i := 41) (N := some 182) (v := ?_) (a' := ?_) #[true, true, true, true, true, true, true, true, true, true, true, true, true, true, true, true, true, true, true, true, true, true, true, true, true, true, true, true, true, true, true, true, true, true, true, true, true, true, true, true, true, true, false, false, false, false, false, false, false, false, false, false, false] rfl rfl (any_of HT_.out (by kernel_rfl)) (fun _ _ _ h => h) (Or.inl ⟨by rfl, ?_⟩) ?_ ?_
                                    rotate_left
                                    · intro w'
                                      go_simp
                                      with_reducible rfl
                                    rotate_left
                                    · simp only [Act.put, List.setIfInBounds_toArray, List.set_cons_zero, List.set_cons_succ, i64_w, i32_w]
                                      rfl
                                    refine pure_ (i := 42) (N := some 183) (v := ?_) (a' := ?_) #[true, true, true, true, true, true, true, true, true, true, true, true, true, true, true, true, true, true, true, true, true, true, true, true, true, true, true, true, true, true, true, true, true, true, true, true, true, true, true, true, true, true, true, false, false, false, false, false, false, false, false, false, false] rfl rfl (any_of HT_.out (by kernel_rfl)) (fun _ _ _ h => h) (Or.inl ⟨by rfl, ?_⟩) ?_ ?_
                                    rotate_left
                                    · intro w'
                                      go_simp
                                      with_reducible rfl
                                    rotate_left
                                    · simp only [Act.put, List.setIfInBounds_toArray, List.set_cons_zero, List.set_cons_succ, i64_w, i32_w]
                                      rfl
                                    refine pure_ (i := 43) (N := some 184) (v := ?_) (a' := ?_) #[true, true, true, true, true, true, true, true, true, true, true, true, true, true, true, true, true, true, true, true, true, true, true, true, true, true, true, true, true, true, true, true, true, true, true, true, true, true, true, true, true, true, true, true, false, false, false, false, false, false, false, false, false] rfl rfl (any_of HT_.out (by kernel_rfl)) (fun _ _ _ h => h) (Or.inl ⟨by rfl, ?_⟩) ?_ ?_
                                    rotate_left
                                    · intro w'
                                      go_simp
                                      with_reducible rfl
                                    rotate_left
                                    · simp only [Act.put, List.setIfInBounds_toArray, List.set_cons_zero, List.set_cons_succ, i64_w, i32_w]
                                      rfl
                                    refine pure_ (i := 44) (N := some 185) (v := ?_) (a' := ?_) #[true, true, true, true, true, true, true, true, true, true, true, true, true, true, true, true, true, true, true, true, true, true, true, true, true, true, true, true, true, true, true, true, true, true, true, true, true, true, true, true, true, true, true, true, true, false, false, false, false, false, false, false, false] rfl rfl (any_of HT_.out (by kernel_rfl)) (fun _ _ _ h => h) (Or.inl ⟨by rfl, ?_⟩) ?_ ?_
                                    rotate_left
                                    · intro w'
                                      go_simp
                                      with_reducible rfl
                                    rotate_left
                                    · simp only [Act.put, List.setIfInBounds_toArray, List.set_cons_zero, List.set_cons_succ, i64_w, i32_w]
                                      rfl
                                    refine pure_ (i := 45) (N := some 186) (v := ?_) (a' := ?_) #[true, true, true, true, true, true, true, true, true, true, true, true, true, true, true, true, true, true, true, true, true, true, true, true, true, true, true, true, true, true, true, true, true, true, true, true, true, true, true, true, true, true, true, true, true, true, false, false, false, false, false, false, false] rfl rfl (any_of HT_.out (by kernel_rfl)) (fun _ _ _ h => h) (Or.inl ⟨by rfl, ?_⟩) ?_ ?_
                                    rotate_left
                                    · intro w'
                                      go_simp
                                      with_reducible rfl
                                    rotate_left
                                    · simp only [Act.put, List.setIfInBounds_toArray, List.set_cons_zero, List.set_cons_succ, i64_w, i32_w]
                                      rfl
                                    refine pure_ (i := 46) (N := some 187) (v := ?_) (a' := ?_) #[true, true, true, true, true, true, true, true, true, true, true, true, true, true, true, true, true, true, true, true, true, true, true, true, true, true, true, true, true, true, true, true, true, true, true, true, true, true, true, true, true, true, true, true, true, true, true, false, false, false, false, false, false] rfl rfl (any_of HT_.out (by kernel_rfl)) (fun _ _ _ h => h) (Or.inl ⟨by rfl, ?_⟩) ?_ ?_
                                    rotate_left
                                    · intro w'
                                      go_simp
                                      with_reducible rfl
                                    rotate_left
                                    · simp only [Act.put, List.setIfInBounds_toArray, List.set_cons_zero, List.set_cons_succ, i64_w, i32_w]
                                      rfl
                                    refine pure_ (i := 47) (N := some 188) (v := ?_) (a' := ?_) #[true, true, true, true, true, true, true, true, true, true, true, true, true, true, true, true, true, true, true, true, true, true, true, true, true, true, true, true, true, true, true, true, true, true, true, true, true, true, true, true, true, true, true, true, true, true, true, true, false, false, false, false, false] rfl rfl (any_of HT_.out (by kernel_rfl)) (fun _ _ _ h => h) (Or.inl ⟨by rfl, ?_⟩) ?_ ?_
                                    rotate_left
                                    · intro w'
                                      go_simp
                                      with_reducible rfl
                                    rotate_left
                                    · simp only [Act.put, List.setIfInBounds_toArray, List.set_cons_zero, List.set_cons_succ, i64_w, i32_w]
                                      rfl
                                    refine pure_ (i := 48) (N := some 189) (v := ?_) (a' := ?_) #[true, true, true, true, true, true, true, true, true, true, true, true, true, true, true, true, true, true, true, true, true, true, true, true, true, true, true, true, true, true, true, true, true, true, true, true, true, true, true, true, true, true, true, true, true, true, true, true, true, false, false, false, false] rfl rfl (any_of HT_.out (by kernel_rfl)) (fun _ _ _ h => h) (Or.inl ⟨by rfl, ?_⟩) ?_ ?_
                                    rotate_left
                                    · intro w'
                                      go_simp
                                      with_reducible rfl
                                    rotate_left
                                    · simp only [Act.put, List.setIfInBounds_toArray, List.set_cons_zero, List.set_cons_succ, i64_w, i32_w]
                                      rfl
                                    refine pure_ (i := 49) (N := some 190) (v := ?_) (a' := ?_) #[true, true, true, true, true, true, true, true, true, true, true, true, true, true, true, true, true, true, true, true, true, true, true, true, true, true, true, true, true, true, true, true, true, true, true, true, true, true, true, true, true, true, true, true, true, true, true, true, true, true, false, false, false] rfl rfl (any_of HT_.out (by kernel_rfl)) (fun _ _ _ h => h) (Or.inl ⟨by rfl, ?_⟩) ?_ ?_
                                    rotate_left
                                    · intro w'
                                      go_simp
                                      with_reducible rfl
                                    rotate_left
                                    · simp only [Act.put, List.setIfInBounds_toArray, List.set_cons_zero, List.set_cons_succ, i64_w, i32_w]
                                      rfl
                                    refine one_ (i := 50) (N := some 191) #[true, true, true, true, true, true, true, true, true, true, true, true, true, true, true, true, true, true, true, true, true, true, true, true, true, true, true, true, true, true, true, true, true, true, true, true, true, true, true, true, true, true, true, true, true, true, true, true, true, true, true, false, false] rfl rfl (one_of HT_.out (by kernel_rfl)) (by decide) (fun K hK => ?_)
                                    refine goes_ Try.func21 (by kernel_rfl) rfl #[] (by rfl) rfl rfl (by (try simp only [List.map_toArray, List.map_cons, List.map_nil]); first | done | rfl | (simp only [List.length_drop, List.length_take]; rfl)) ?_
                                    with_reducible refine (galloonlaw03_awake.calls kj28  t216 _ A48.out).mono ?_
                                    rintro e w51 ⟨rfl, hb⟩
                                    refine ⟨_, rfl, ?_⟩
                                    have n0_ := Aside0.mk (blk_below (g := gb200) (o := .cells #[.int .i64 t201, .int .i64 t202] 23 (0, 0)) (by (with_reducible repeat (first | refine blk_drewN ?_ _ | refine blk_drew ?_ | refine blk_alloc ?_ _)); exact BK200.out) hb)
                                    have n1_ := Aside0.mk (below_step (by repeat (first | (with_reducible first | exact HB.out | apply below_alloc | apply pw_below_drewN | apply below_drew1 | refine below_set ?_ GE200.out) | exact HB.out)) hb)
                                    clear BK200
                                    clear HB
                                    have BK200 := n0_
                                    have HB := n1_
                                    clear n0_ n1_
                                    (try clear hb)
                                    (try clear hb2)
                                    (try clear hk)
                                    (try clear hi)
                                    refine hK.out _ _ trivial (fun hHeld => ?_)
                                    clear hK K
                                    refine norm_ (a' := ?_) ?_ ?_
                                    rotate_left
                                    · show Act.put _ (some 191) _ = _
                                      simp only [Act.put, List.setIfInBounds_toArray, List.set_cons_zero, List.set_cons_succ, i64_w, i32_w]
                                      rfl
                                    refine pure_ (i := 51) (N := some 192) (v := ?_) (a' := ?_) #[true, true, true, true, true, true, true, true, true, true, true, true, true, true, true, true, true, true, true, true, true, true, true, true, true, true, true, true, true, true, true, true, true, true, true, true, true, true, true, true, true, true, true, true, true, true, true, true, true, true, true, true, false] rfl rfl (any_of HT_.out (by kernel_rfl)) (fun _ _ _ h => h) (Or.inl ⟨by rfl, ?_⟩) ?_ ?_
                                    rotate_left
                                    · intro w'
                                      go_simp
                                      with_reducible rfl
                                    rotate_left
                                    · simp only [Act.put, List.setIfInBounds_toArray, List.set_cons_zero, List.set_cons_succ, i64_w, i32_w]
                                      rfl
                                    refine pure_ (i := 52) (N := some 2) (v := ?_) (a' := ?_) #[true, true, true, true, true, true, true, true, true, true, true, true, true, true, true, true, true, true, true, true, true, true, true, true, true, true, true, true, true, true, true, true, true, true, true, true, true, true, true, true, true, true, true, true, true, true, true, true, true, true, true, true, true] rfl rfl (any_of HT_.out (by kernel_rfl)) (fun _ _ _ h => h) (Or.inl ⟨by rfl, ?_⟩) ?_ ?_
                                    rotate_left
                                    · intro w'
                                      go_simp
                                      with_reducible rfl
                                    rotate_left
                                    · simp only [Act.put, List.setIfInBounds_toArray, List.set_cons_zero, List.set_cons_succ, i64_w, i32_w]
                                      rfl
                                    refine done_ (done_of HT_.out (by kernel_rfl)) ?_
                                    try go_wp2
                                    go_ret
                                    exact ⟨by first | rfl | (simp [errW_none, errW_some] <;> rfl) | (simp [*, errW_none, errW_some] <;> rfl), by repeat (first | (with_reducible first | exact HB.out | apply below_alloc | apply pw_below_drewN | apply below_drew1 | refine below_set ?_ GE200.out) | exact HB.out)⟩
                                  · rw [if_neg c47] at H
                                    have c47b0 : ((wrap64 ((wrap64 ((wrap64 (Int.tdiv (wrap64 ((wrap64 (12 * t201)) * t202)) t204)) * t203)) + (wrap64 ((wrap64 (Int.tdiv (wrap64 ((wrap64 (12 * t201)) * t202)) t214)) * t213)))) == (wrap64 ((wrap64 ((wrap64 ((wrap64 (t201 * t201)) + (wrap64 (t202 * t202)))) + 1)) - (wrap64 ((wrap64 (3 * t201)) * t202))))) = false := beq_eq_false_iff_ne.mpr c47
                                    have c47b1 : ((wrap64 ((wrap64 ((wrap64 (Int.tdiv (wrap64 ((wrap64 (12 * t201)) * t202)) t204)) * t203)) + (wrap64 ((wrap64 (Int.tdiv (wrap64 ((wrap64 (12 * t201)) * t202)) t214)) * t213)))) != (wrap64 ((wrap64 ((wrap64 ((wrap64 (t201 * t201)) + (wrap64 (t202 * t202)))) + 1)) - (wrap64 ((wrap64 (3 * t201)) * t202))))) = true := bne_iff_ne.mpr c47
                                    obtain rfl := Option.some.inj H
                                    exact absurd hr.out (by decide)
                                · rw [if_neg c46] at H
                                  have c46b0 : ((Int.tmod (wrap64 ((wrap64 (12 * t201)) * t202)) t214) == 0) = false := beq_eq_false_iff_ne.mpr c46
                                  have c46b1 : ((Int.tmod (wrap64 ((wrap64 (12 * t201)) * t202)) t214) != 0) = true := bne_iff_ne.mpr c46
                                  obtain rfl := Option.some.inj H
                                  exact absurd hr.out (by decide)
                            · rw [if_neg c44] at H
                              have c44b0 : ((Int.tmod (wrap64 ((wrap64 (12 * t201)) * t202)) t204) == 0) = false := beq_eq_false_iff_ne.mpr c44
                              have c44b1 : ((Int.tmod (wrap64 ((wrap64 (12 * t201)) * t202)) t204) != 0) = true := bne_iff_ne.mpr c44
                              obtain rfl := Option.some.inj H
                              exact absurd hr.out (by decide)
                · rw [if_neg c38] at H
                  have c38b0 : (t215 == 0) = false := beq_eq_false_iff_ne.mpr c38
                  have c38b1 : (t215 != 0) = true := bne_iff_ne.mpr c38
                  obtain rfl := Option.some.inj H
                  exact absurd hr.out (by decide)

/-- THE ONE PURE STATEMENT of galloonlaw03_YardSaws: yours. -/
def galloonlaw03_YardSaws.Pure : Prop := ∀ (a0_0 : Int) (a0_1 : Int), (Lit.int .i64 a0_0).wf = true → (Lit.int .i64 a0_1).wf = true → ∃ k, galloonlaw03_YardSaws.f k a0_0 a0_1 = some true
theorem galloonlaw03_YardSaws.walk (P : galloonlaw03_YardSaws.Pure) (a0_0 : Int) (a0_1 : Int) (w : World) (w0_0 : (Lit.int .i64 a0_0).wf = true) (w0_1 : (Lit.int .i64 a0_1).wf = true) :
    Calls Try.prog 4 #[.agg #[.int .i64 a0_0, .int .i64 a0_1]] w fun e w' => e = .returned (.bool true) ∧ Below w.heap.size w w' := by
  obtain ⟨k, h⟩ := P a0_0 a0_1 w0_0 w0_1
  refine (galloonlaw03_YardSaws.calls k a0_0 a0_1 true w h ⟨rfl⟩).mono ?_
  rintro e w' ⟨rfl, hd⟩
  exact ⟨rfl, hd⟩

end Go.Proofs.Ythjodhmkmjabbaa.PY
