-- Made by the session's own driver (wip/tools/p2.py) out of the translation; Lean checks it.
import Derived.Test.YthjodhmkmjabbaaSq
import Derived.Test.YthjodhmkmjabbaaSq2
import Derived.Test.YthjodhmkmjabbaaPYx0
import Derived.Test.YthjodhmkmjabbaaPYx1
import Derived.Test.YthjodhmkmjabbaaPYx4
import Derived.Test.YthjodhmkmjabbaaPYx7
import Derived.Test.YthjodhmkmjabbaaPYx8
import Derived.Test.YthjodhmkmjabbaaPYx10
import Derived.Test.YthjodhmkmjabbaaPYx14
import Derived.Test.YthjodhmkmjabbaaGItem
import Derived.Test.YthjodhmkmjabbaaGTouching
namespace Go.Proofs.Ythjodhmkmjabbaa.PY
open Go.RowKit Go.Proofs.YthjodhmkmjabbaaW.PrintWords Go.Proofs.YthjodhmkmjabbaaW.PrintLast Go.Proofs.YthjodhmkmjabbaaW.PrintMore
attribute [local go_sem] max2_int min2_int max_two min_two max_three min_three max_four min_four   -- for this text's walks alone
set_option linter.unusedVariables false
set_option linter.unusedSimpArgs false
attribute [local go_sem high] eqA23
/-! ### galloonlaw03_YardTouched: function 12 -/
mutual
def galloonlaw03_YardTouched.j0 : Nat → Int → Int → List (S23) → List (S23) → Int → Bool → Int → Int → Option (Bool)
 | 0, _, _, _, _, _, _, _, _ => none
 | k + 1, x0, x1, x7, x9, x11, x65, x439000, x439001 => if x65 = true then (some false) else ((galloonlaw03_mod.f x1 x11).bind fun t454 => ((yard_Item.f k x0 t454).bind fun bt455 => (galloonlaw03_YardTouched.l0 k x0 x7 x9 bt455.2.2 false 0 x439000 x439001 bt455.1 bt455.2.1)))
def galloonlaw03_YardTouched.l0 : Nat → Int → List (S23) → List (S23) → Int → Bool → Int → Int → Int → Int → Int → Option (Bool)
 | 0, _, _, _, _, _, _, _, _, _, _ => none
 | k + 1, x0, x7, x9, x14, x15, x16, x439000, x439001, x459000, x459001 => if x16 < (x7.length : Int) then (if 0 ≤ x16 then ((galloonref03_Valid.f k ((rd_T23 x7 x16).f0) ((rd_T23 x7 x16).f1)).bind fun t460 => (if t460 = true then (if ((rd_T23 x7 x16).f1) > x0 then (galloonlaw03_YardTouched.j2 k x0 x7 x9 x14 x15 x16 true x439000 x439001 x459000 x459001) else ((galloonref03_Neighbors.f ((rd_T23 x7 x16).f0) ((rd_T23 x7 x16).f1) x439000 x439001).bind fun t463 => (if t463 = true then (if 0 ≤ (wrap64 ((wrap64 ((x9.length : Int) - 1)) - x16)) then (if (wrap64 ((wrap64 ((x9.length : Int) - 1)) - x16)) < (x9.length : Int) then ((galloonlaw03_rest.f ((rd_T23 x7 x16).f0) ((rd_T23 x7 x16).f1)).bind fun bt466 => (if (!(((rd_T23 x9 (wrap64 ((wrap64 ((x9.length : Int) - 1)) - x16))).f0) == bt466.1) || (!(((rd_T23 x9 (wrap64 ((wrap64 ((x9.length : Int) - 1)) - x16))).f1) == bt466.2))) = true then (galloonlaw03_YardTouched.j2 k x0 x7 x9 x14 x15 x16 true x439000 x439001 x459000 x459001) else (if x16 > 0 then (if 0 ≤ (wrap64 (x16 - 1)) then (if (wrap64 (x16 - 1)) < (x7.length : Int) then ((galloonref03_Less.f ((rd_T23 x7 (wrap64 (x16 - 1))).f0) ((rd_T23 x7 (wrap64 (x16 - 1))).f1) ((rd_T23 x7 x16).f0) ((rd_T23 x7 x16).f1)).bind fun t470 => (galloonlaw03_YardTouched.j2 k x0 x7 x9 x14 x15 x16 (!t470) x439000 x439001 x459000 x459001)) else (none)) else (none)) else (galloonlaw03_YardTouched.j2 k x0 x7 x9 x14 x15 x16 false x439000 x439001 x459000 x459001)))) else (none)) else (none)) else ((galloonref03_Neighbors.f x439000 x439001 ((rd_T23 x7 x16).f0) ((rd_T23 x7 x16).f1)).bind fun t472 => (if t472 = true then (if 0 ≤ (wrap64 ((wrap64 ((x9.length : Int) - 1)) - x16)) then (if (wrap64 ((wrap64 ((x9.length : Int) - 1)) - x16)) < (x9.length : Int) then ((galloonlaw03_rest.f ((rd_T23 x7 x16).f0) ((rd_T23 x7 x16).f1)).bind fun bt475 => (if (!(((rd_T23 x9 (wrap64 ((wrap64 ((x9.length : Int) - 1)) - x16))).f0) == bt475.1) || (!(((rd_T23 x9 (wrap64 ((wrap64 ((x9.length : Int) - 1)) - x16))).f1) == bt475.2))) = true then (galloonlaw03_YardTouched.j2 k x0 x7 x9 x14 x15 x16 true x439000 x439001 x459000 x459001) else (if x16 > 0 then (if 0 ≤ (wrap64 (x16 - 1)) then (if (wrap64 (x16 - 1)) < (x7.length : Int) then ((galloonref03_Less.f ((rd_T23 x7 (wrap64 (x16 - 1))).f0) ((rd_T23 x7 (wrap64 (x16 - 1))).f1) ((rd_T23 x7 x16).f0) ((rd_T23 x7 x16).f1)).bind fun t479 => (galloonlaw03_YardTouched.j2 k x0 x7 x9 x14 x15 x16 (!t479) x439000 x439001 x459000 x459001)) else (none)) else (none)) else (galloonlaw03_YardTouched.j2 k x0 x7 x9 x14 x15 x16 false x439000 x439001 x459000 x459001)))) else (none)) else (none)) else (galloonlaw03_YardTouched.j2 k x0 x7 x9 x14 x15 x16 true x439000 x439001 x459000 x459001)))))) else (galloonlaw03_YardTouched.j2 k x0 x7 x9 x14 x15 x16 true x439000 x439001 x459000 x459001))) else (none)) else ((yard_Neighbors.f k x459000 x459001 x439000 x439001).bind fun bt481 => ((yard_Neighbors.f k x439000 x439001 x459000 x459001).bind fun bt483 => (if x14 = 0 then (if bt481.2 = 0 then (if bt483.2 = 0 then (if bt481.1 = true then (if (x15 == true) = true then ((galloonlaw03_awake.f k).bind fun t485 => (some t485)) else (some false)) else (if (x15 == bt483.1) = true then ((galloonlaw03_awake.f k).bind fun t486 => (some t486)) else (some false))) else (some false)) else (some false)) else (some false))))
def galloonlaw03_YardTouched.j2 : Nat → Int → List (S23) → List (S23) → Int → Bool → Int → Bool → Int → Int → Int → Int → Option (Bool)
 | 0, _, _, _, _, _, _, _, _, _, _, _ => none
 | k + 1, x0, x7, x9, x14, x15, x16, x145, x439000, x439001, x459000, x459001 => if x145 = true then (some false) else (if x15 = true then (galloonlaw03_YardTouched.l0 k x0 x7 x9 x14 true (wrap64 (x16 + 1)) x439000 x439001 x459000 x459001) else (if 0 ≤ x16 then (if x16 < (x7.length : Int) then (galloonlaw03_YardTouched.l0 k x0 x7 x9 x14 (((rd_T23 x7 x16).f0) == x459000 && (((rd_T23 x7 x16).f1) == x459001)) (wrap64 (x16 + 1)) x439000 x439001 x459000 x459001) else (none)) else (none)))
end
def galloonlaw03_YardTouched.f (k : Nat) (a0 : Int) (a1 : Int) (a2_0 : Int) (a2_1 : Int) : Option (Bool) := (galloonlaw03_mod.f a0 300).bind fun t439 => ((galloonlaw03_tame.f k a2_0 a2_1 (wrap64 (1 + t439))).bind fun bt440 => ((yard_Touching.f k (wrap64 (1 + t439)) bt440.1 bt440.2).bind fun bt442 => ((galloonlaw03_rest.f bt440.1 bt440.2).bind fun bt446 => ((yard_Touching.f k (wrap64 (1 + t439)) bt446.1 bt446.2).bind fun bt448 => ((yard_Size.f k (wrap64 (1 + t439))).bind fun bt452 => (if bt442.2 = 0 then (if bt448.2 = 0 then (if bt452.2 = 0 then (if bt452.1 < 2 then (galloonlaw03_YardTouched.j0 k (wrap64 (1 + t439)) a1 bt442.1 bt448.1 bt452.1 true bt440.1 bt440.2) else (galloonlaw03_YardTouched.j0 k (wrap64 (1 + t439)) a1 bt442.1 bt448.1 bt452.1 ((bt442.1.length : Int) != (bt448.1.length : Int)) bt440.1 bt440.2)) else (galloonlaw03_YardTouched.j0 k (wrap64 (1 + t439)) a1 bt442.1 bt448.1 bt452.1 true bt440.1 bt440.2)) else (galloonlaw03_YardTouched.j0 k (wrap64 (1 + t439)) a1 bt442.1 bt448.1 bt452.1 true bt440.1 bt440.2)) else (galloonlaw03_YardTouched.j0 k (wrap64 (1 + t439)) a1 bt442.1 bt448.1 bt452.1 true bt440.1 bt440.2)))))))
theorem galloonlaw03_YardTouched.j0_bad {k : Nat} {x0 : Int} {x1 : Int} {x7 : List (S23)} {x9 : List (S23)} {x11 : Int} {x439000 : Int} {x439001 : Int} {r : Bool} (h : galloonlaw03_YardTouched.j0 k x0 x1 x7 x9 x11 true x439000 x439001 = some r) : r = false := by
 cases k with
 | zero => exact absurd h (by simp [galloonlaw03_YardTouched.j0])
 | succ k =>
  simp only [galloonlaw03_YardTouched.j0] at h
  rw [if_pos trivial] at h
  exact (Option.some.inj h).symm
theorem galloonlaw03_YardTouched.j2_bad {k : Nat} {x0 : Int} {x7 : List (S23)} {x9 : List (S23)} {x14 : Int} {x15 : Bool} {x16 : Int} {x439000 : Int} {x439001 : Int} {x459000 : Int} {x459001 : Int} {r : Bool} (h : galloonlaw03_YardTouched.j2 k x0 x7 x9 x14 x15 x16 true x439000 x439001 x459000 x459001 = some r) : r = false := by
 cases k with
 | zero => exact absurd h (by simp [galloonlaw03_YardTouched.j2])
 | succ k =>
  simp only [galloonlaw03_YardTouched.j2] at h
  rw [if_pos trivial] at h
  exact (Option.some.inj h).symm
theorem galloonlaw03_YardTouched.mono_l : ∀ k, (∀ y0 y1 y2 y3 y4 y5 y6 y7, LeO (galloonlaw03_YardTouched.j0 k y0 y1 y2 y3 y4 y5 y6 y7) (galloonlaw03_YardTouched.j0 (k + 1) y0 y1 y2 y3 y4 y5 y6 y7)) ∧ (∀ y0 y1 y2 y3 y4 y5 y6 y7 y8 y9, LeO (galloonlaw03_YardTouched.l0 k y0 y1 y2 y3 y4 y5 y6 y7 y8 y9) (galloonlaw03_YardTouched.l0 (k + 1) y0 y1 y2 y3 y4 y5 y6 y7 y8 y9)) ∧ (∀ y0 y1 y2 y3 y4 y5 y6 y7 y8 y9 y10, LeO (galloonlaw03_YardTouched.j2 k y0 y1 y2 y3 y4 y5 y6 y7 y8 y9 y10) (galloonlaw03_YardTouched.j2 (k + 1) y0 y1 y2 y3 y4 y5 y6 y7 y8 y9 y10))
 | 0 => ⟨fun _ _ _ _ _ _ _ _ r h => by simp [galloonlaw03_YardTouched.j0] at h, fun _ _ _ _ _ _ _ _ _ _ r h => by simp [galloonlaw03_YardTouched.l0] at h, fun _ _ _ _ _ _ _ _ _ _ _ r h => by simp [galloonlaw03_YardTouched.j2] at h⟩
 | k + 1 => by
  obtain ⟨ih0, ih1, ih2⟩ := galloonlaw03_YardTouched.mono_l k
  refine ⟨?_, ?_, ?_⟩
  ·intro y0 y1 y2 y3 y4 y5 y6 y7
   unfold galloonlaw03_YardTouched.j0
   repeat' first
   | (with_reducible exact ih0 _ _ _ _ _ _ _ _)
   | (with_reducible exact ih1 _ _ _ _ _ _ _ _ _ _)
   | (with_reducible exact ih2 _ _ _ _ _ _ _ _ _ _ _)
   | (with_reducible exact galloonlaw03_awake.mono _)
   | (with_reducible exact galloonlaw03_tame.mono _ _ _ _)
   | (with_reducible exact galloonref03_Valid.mono _ _ _)
   | (with_reducible exact yard_Item.mono _ _ _)
   | (with_reducible exact yard_Neighbors.mono _ _ _ _ _)
   | (with_reducible exact yard_Size.mono _ _)
   | (with_reducible exact yard_Touching.mono _ _ _ _)
   | (with_reducible exact LeO.refl _)
   | (with_reducible exact LeO.none _)
   | (with_reducible refine LeO.ite ?_ ?_)
   | (with_reducible refine LeO.bind ?_ (fun _ => ?_))
   | exact ih0 _ _ _ _ _ _ _ _
   | exact ih1 _ _ _ _ _ _ _ _ _ _
   | exact ih2 _ _ _ _ _ _ _ _ _ _ _
   | exact galloonlaw03_awake.mono _
   | exact galloonlaw03_tame.mono _ _ _ _
   | exact galloonref03_Valid.mono _ _ _
   | exact yard_Item.mono _ _ _
   | exact yard_Neighbors.mono _ _ _ _ _
   | exact yard_Size.mono _ _
   | exact yard_Touching.mono _ _ _ _
   | exact LeO.none _
   | refine LeO.ite ?_ ?_
   | refine LeO.bind ?_ (fun _ => ?_)
  ·intro y0 y1 y2 y3 y4 y5 y6 y7 y8 y9
   unfold galloonlaw03_YardTouched.l0
   repeat' first
   | (with_reducible exact ih0 _ _ _ _ _ _ _ _)
   | (with_reducible exact ih1 _ _ _ _ _ _ _ _ _ _)
   | (with_reducible exact ih2 _ _ _ _ _ _ _ _ _ _ _)
   | (with_reducible exact galloonlaw03_awake.mono _)
   | (with_reducible exact galloonlaw03_tame.mono _ _ _ _)
   | (with_reducible exact galloonref03_Valid.mono _ _ _)
   | (with_reducible exact yard_Item.mono _ _ _)
   | (with_reducible exact yard_Neighbors.mono _ _ _ _ _)
   | (with_reducible exact yard_Size.mono _ _)
   | (with_reducible exact yard_Touching.mono _ _ _ _)
   | (with_reducible exact LeO.refl _)
   | (with_reducible exact LeO.none _)
   | (with_reducible refine LeO.ite ?_ ?_)
   | (with_reducible refine LeO.bind ?_ (fun _ => ?_))
   | exact ih0 _ _ _ _ _ _ _ _
   | exact ih1 _ _ _ _ _ _ _ _ _ _
   | exact ih2 _ _ _ _ _ _ _ _ _ _ _
   | exact galloonlaw03_awake.mono _
   | exact galloonlaw03_tame.mono _ _ _ _
   | exact galloonref03_Valid.mono _ _ _
   | exact yard_Item.mono _ _ _
   | exact yard_Neighbors.mono _ _ _ _ _
   | exact yard_Size.mono _ _
   | exact yard_Touching.mono _ _ _ _
   | exact LeO.none _
   | refine LeO.ite ?_ ?_
   | refine LeO.bind ?_ (fun _ => ?_)
  ·intro y0 y1 y2 y3 y4 y5 y6 y7 y8 y9 y10
   unfold galloonlaw03_YardTouched.j2
   repeat' first
   | (with_reducible exact ih0 _ _ _ _ _ _ _ _)
   | (with_reducible exact ih1 _ _ _ _ _ _ _ _ _ _)
   | (with_reducible exact ih2 _ _ _ _ _ _ _ _ _ _ _)
   | (with_reducible exact galloonlaw03_awake.mono _)
   | (with_reducible exact galloonlaw03_tame.mono _ _ _ _)
   | (with_reducible exact galloonref03_Valid.mono _ _ _)
   | (with_reducible exact yard_Item.mono _ _ _)
   | (with_reducible exact yard_Neighbors.mono _ _ _ _ _)
   | (with_reducible exact yard_Size.mono _ _)
   | (with_reducible exact yard_Touching.mono _ _ _ _)
   | (with_reducible exact LeO.refl _)
   | (with_reducible exact LeO.none _)
   | (with_reducible refine LeO.ite ?_ ?_)
   | (with_reducible refine LeO.bind ?_ (fun _ => ?_))
   | exact ih0 _ _ _ _ _ _ _ _
   | exact ih1 _ _ _ _ _ _ _ _ _ _
   | exact ih2 _ _ _ _ _ _ _ _ _ _ _
   | exact galloonlaw03_awake.mono _
   | exact galloonlaw03_tame.mono _ _ _ _
   | exact galloonref03_Valid.mono _ _ _
   | exact yard_Item.mono _ _ _
   | exact yard_Neighbors.mono _ _ _ _ _
   | exact yard_Size.mono _ _
   | exact yard_Touching.mono _ _ _ _
   | exact LeO.none _
   | refine LeO.ite ?_ ?_
   | refine LeO.bind ?_ (fun _ => ?_)
theorem galloonlaw03_YardTouched.mono : ∀ a0 a1 a2 a3 k, LeO (galloonlaw03_YardTouched.f k a0 a1 a2 a3) (galloonlaw03_YardTouched.f (k + 1) a0 a1 a2 a3) := by
 intro a0 a1 a2 a3 k
 obtain ⟨ih0, ih1, ih2⟩ := galloonlaw03_YardTouched.mono_l k
 unfold galloonlaw03_YardTouched.f
 repeat' first
  | (with_reducible exact ih0 _ _ _ _ _ _ _ _)
  | (with_reducible exact ih1 _ _ _ _ _ _ _ _ _ _)
  | (with_reducible exact ih2 _ _ _ _ _ _ _ _ _ _ _)
  | (with_reducible exact galloonlaw03_awake.mono _)
  | (with_reducible exact galloonlaw03_tame.mono _ _ _ _)
  | (with_reducible exact galloonref03_Valid.mono _ _ _)
  | (with_reducible exact yard_Item.mono _ _ _)
  | (with_reducible exact yard_Neighbors.mono _ _ _ _ _)
  | (with_reducible exact yard_Size.mono _ _)
  | (with_reducible exact yard_Touching.mono _ _ _ _)
  | (with_reducible exact LeO.refl _)
  | (with_reducible exact LeO.none _)
  | (with_reducible refine LeO.ite ?_ ?_)
  | (with_reducible refine LeO.bind ?_ (fun _ => ?_))
  | exact ih0 _ _ _ _ _ _ _ _
  | exact ih1 _ _ _ _ _ _ _ _ _ _
  | exact ih2 _ _ _ _ _ _ _ _ _ _ _
  | exact galloonlaw03_awake.mono _
  | exact galloonlaw03_tame.mono _ _ _ _
  | exact galloonref03_Valid.mono _ _ _
  | exact yard_Item.mono _ _ _
  | exact yard_Neighbors.mono _ _ _ _ _
  | exact yard_Size.mono _ _
  | exact yard_Touching.mono _ _ _ _
  | exact LeO.none _
  | refine LeO.ite ?_ ?_
  | refine LeO.bind ?_ (fun _ => ?_)
def galloonlaw03_YardTouched.T13 : Bool × List (List Nat × List Nat) := (true, [([], []), ([], []), ([0, 1], [0, 1]), ([2], [2]), ([3], [3]), ([4], [4]), ([5, 4], [5]), ([6], [6]), ([6], [6]), ([7, 8, 6], [6, 7, 8]), ([9, 6], [6, 9]), ([10, 6], [6, 10]), ([6], [6]), ([11, 12, 6], [6, 11, 12]), ([6, 13], [6, 13]), ([14, 6], [14]), ([15], [15]), ([15], [15]), ([16, 17, 15], [15, 16, 17]), ([18, 15], [15, 18]), ([15], [15]), ([19, 20, 15, 15], [15, 19, 20]), ([21, 15], [15, 21]), ([22, 21, 15], [15, 22]), ([23], [23]), ([23], [23]), ([23], [23]), ([25, 26, 23], [23, 25, 26]), ([27, 23], [23, 27]), ([24, 28, 23, 23], [23, 24, 28]), ([29, 23], [23, 29]), ([23, 30, 15], [15, 23, 30]), ([15, 31], [15, 31]), ([32, 29], [32]), ([33], [33]), ([33], [33]), ([35, 33], [33, 35]), ([36, 33], [33, 36]), ([33], [33]), ([37, 38, 33], [33, 37, 38]), ([34, 39, 33], [33, 34, 39]), ([40, 33], [33, 40]), ([33], [33]), ([33], [33]), ([42, 43, 33], [33, 42, 43]), ([44, 33], [33, 44]), ([45, 33, 33], [33, 45]), ([41, 46, 33], [33, 41, 46]), ([33, 47], [33, 47]), ([48, 46], [48]), ([49], [49]), ([50, 49], [49, 50]), ([51, 49, 49], [49, 51]), ([52], [52]), ([52], [52]), ([54, 52], [52, 54]), ([53, 55, 52], [52, 53, 55]), ([56, 52], [52, 56]), ([52], [52]), ([52], [52]), ([58, 59, 52], [52, 58, 59]), ([60, 52], [52, 60]), ([57, 61, 52, 52], [52, 57, 61]), ([62, 52], [52, 62]), ([52, 63, 49], [49, 52, 63]), ([49, 64], [49, 64])])
def galloonlaw03_YardTouched.B13 : List Nat := [0, 0, 3, 7, 15, 31, 63, 127, 127, 511, 1023, 2047, 127, 8191, 16383, 32767, 65535, 65535, 262143, 524287, 65535, 2097151, 4194303, 8388607, 16777215, 16777215, 16777215, 117440511, 251658239, 536870911, 1073741823, 2147483647, 4294967295, 8589934591, 17179869183, 17179869183, 51539607551, 120259084287, 17179869183, 532575944703, 1099511627775, 2199023255551, 17179869183, 17179869183, 13211319402495, 30803505446911, 65987877535743, 140737488355327, 281474976710655, 562949953421311, 1125899906842623, 2251799813685247, 4503599627370495, 9007199254740991, 9007199254740991, 27021597764222975, 72057594037927935, 144115188075855871, 9007199254740991, 9007199254740991, 873698327709876223, 2026619832316723199, 4611686018427387903, 9223372036854775807, 18446744073709551615, 36893488147419103231]
theorem galloonlaw03_YardTouched.tab13 : rtab .any (opsOf Try.f12 13) = galloonlaw03_YardTouched.T13 := by kernel_rfl
theorem galloonlaw03_YardTouched.bits13 : waitsOk galloonlaw03_YardTouched.T13.2 galloonlaw03_YardTouched.B13 = true := by kernel_rfl
def galloonlaw03_YardTouched.T15 : Bool × List (List Nat × List Nat) := (true, [([], []), ([0], [0]), ([1], [1]), ([1], [1]), ([2, 3, 1], [1, 2, 3]), ([4, 1], [1, 4]), ([1], [1]), ([5, 6, 1], [1, 5, 6]), ([1, 7], [1, 7]), ([8, 1, 0, 1, 2, 3, 4, 5, 6, 7, 8], [0, 8])])
def galloonlaw03_YardTouched.B15 : List Nat := [0, 1, 3, 3, 15, 31, 3, 127, 255, 511]
theorem galloonlaw03_YardTouched.tab15 : rtab .any (opsOf Try.f12 15) = galloonlaw03_YardTouched.T15 := by kernel_rfl
theorem galloonlaw03_YardTouched.bits15 : waitsOk galloonlaw03_YardTouched.T15.2 galloonlaw03_YardTouched.B15 = true := by kernel_rfl
set_option maxHeartbeats 8000000 in
set_option maxRecDepth 100000 in
theorem galloonlaw03_YardTouched.calls (k : Nat) (a0 : Int) (a1 : Int) (a2_0 : Int) (a2_1 : Int) (r : Bool) (w : World) (h : galloonlaw03_YardTouched.f k a0 a1 a2_0 a2_1 = some r) (hr : Aside0 (r = true)) :
 Calls Try.prog 12 #[.int .i64 a0, .int .i64 a1, .agg #[.int .i64 a2_0, .int .i64 a2_1]] w fun e w' => e = .returned (.bool r) ∧ Below w.heap.size w w' := by
 have hu23 := Try.underlying23
 have HB := Aside0.mk (Below.refl w.heap.size w)
 have H : ((galloonlaw03_mod.f a0 300).bind fun t439 => ((galloonlaw03_tame.f k a2_0 a2_1 (wrap64 (1 + t439))).bind fun bt440 => ((yard_Touching.f k (wrap64 (1 + t439)) bt440.1 bt440.2).bind fun bt442 => ((galloonlaw03_rest.f bt440.1 bt440.2).bind fun bt446 => ((yard_Touching.f k (wrap64 (1 + t439)) bt446.1 bt446.2).bind fun bt448 => ((yard_Size.f k (wrap64 (1 + t439))).bind fun bt452 => (if bt442.2 = 0 then (if bt448.2 = 0 then (if bt452.2 = 0 then (if bt452.1 < 2 then (galloonlaw03_YardTouched.j0 k (wrap64 (1 + t439)) a1 bt442.1 bt448.1 bt452.1 true bt440.1 bt440.2) else (galloonlaw03_YardTouched.j0 k (wrap64 (1 + t439)) a1 bt442.1 bt448.1 bt452.1 ((bt442.1.length : Int) != (bt448.1.length : Int)) bt440.1 bt440.2)) else (galloonlaw03_YardTouched.j0 k (wrap64 (1 + t439)) a1 bt442.1 bt448.1 bt452.1 true bt440.1 bt440.2)) else (galloonlaw03_YardTouched.j0 k (wrap64 (1 + t439)) a1 bt442.1 bt448.1 bt452.1 true bt440.1 bt440.2)) else (galloonlaw03_YardTouched.j0 k (wrap64 (1 + t439)) a1 bt442.1 bt448.1 bt452.1 true bt440.1 bt440.2)))))))) = some r := h
 clear h
 replace H := Option.bind_eq_some_iff.mp H
 obtain ⟨t439, A40, H⟩ := H
 replace H : ((galloonlaw03_tame.f k a2_0 a2_1 (wrap64 (1 + t439))).bind fun bt440 => ((yard_Touching.f k (wrap64 (1 + t439)) bt440.1 bt440.2).bind fun bt442 => ((galloonlaw03_rest.f bt440.1 bt440.2).bind fun bt446 => ((yard_Touching.f k (wrap64 (1 + t439)) bt446.1 bt446.2).bind fun bt448 => ((yard_Size.f k (wrap64 (1 + t439))).bind fun bt452 => (if bt442.2 = 0 then (if bt448.2 = 0 then (if bt452.2 = 0 then (if bt452.1 < 2 then (galloonlaw03_YardTouched.j0 k (wrap64 (1 + t439)) a1 bt442.1 bt448.1 bt452.1 true bt440.1 bt440.2) else (galloonlaw03_YardTouched.j0 k (wrap64 (1 + t439)) a1 bt442.1 bt448.1 bt452.1 ((bt442.1.length : Int) != (bt448.1.length : Int)) bt440.1 bt440.2)) else (galloonlaw03_YardTouched.j0 k (wrap64 (1 + t439)) a1 bt442.1 bt448.1 bt452.1 true bt440.1 bt440.2)) else (galloonlaw03_YardTouched.j0 k (wrap64 (1 + t439)) a1 bt442.1 bt448.1 bt452.1 true bt440.1 bt440.2)) else (galloonlaw03_YardTouched.j0 k (wrap64 (1 + t439)) a1 bt442.1 bt448.1 bt452.1 true bt440.1 bt440.2))))))) = some r := H
 have A4 := Aside0.mk A40
 clear A40
 replace H := Option.bind_eq_some_iff.mp H
 obtain ⟨⟨t440, t441⟩, A50, H⟩ := H
 replace H : ((yard_Touching.f k (wrap64 (1 + t439)) t440 t441).bind fun bt442 => ((galloonlaw03_rest.f t440 t441).bind fun bt446 => ((yard_Touching.f k (wrap64 (1 + t439)) bt446.1 bt446.2).bind fun bt448 => ((yard_Size.f k (wrap64 (1 + t439))).bind fun bt452 => (if bt442.2 = 0 then (if bt448.2 = 0 then (if bt452.2 = 0 then (if bt452.1 < 2 then (galloonlaw03_YardTouched.j0 k (wrap64 (1 + t439)) a1 bt442.1 bt448.1 bt452.1 true t440 t441) else (galloonlaw03_YardTouched.j0 k (wrap64 (1 + t439)) a1 bt442.1 bt448.1 bt452.1 ((bt442.1.length : Int) != (bt448.1.length : Int)) t440 t441)) else (galloonlaw03_YardTouched.j0 k (wrap64 (1 + t439)) a1 bt442.1 bt448.1 bt452.1 true t440 t441)) else (galloonlaw03_YardTouched.j0 k (wrap64 (1 + t439)) a1 bt442.1 bt448.1 bt452.1 true t440 t441)) else (galloonlaw03_YardTouched.j0 k (wrap64 (1 + t439)) a1 bt442.1 bt448.1 bt452.1 true t440 t441)))))) = some r := H
 have A5 := Aside0.mk A50
 clear A50
 replace H := Option.bind_eq_some_iff.mp H
 obtain ⟨⟨t442, t445⟩, A60, H⟩ := H
 replace H : ((galloonlaw03_rest.f t440 t441).bind fun bt446 => ((yard_Touching.f k (wrap64 (1 + t439)) bt446.1 bt446.2).bind fun bt448 => ((yard_Size.f k (wrap64 (1 + t439))).bind fun bt452 => (if t445 = 0 then (if bt448.2 = 0 then (if bt452.2 = 0 then (if bt452.1 < 2 then (galloonlaw03_YardTouched.j0 k (wrap64 (1 + t439)) a1 t442 bt448.1 bt452.1 true t440 t441) else (galloonlaw03_YardTouched.j0 k (wrap64 (1 + t439)) a1 t442 bt448.1 bt452.1 ((t442.length : Int) != (bt448.1.length : Int)) t440 t441)) else (galloonlaw03_YardTouched.j0 k (wrap64 (1 + t439)) a1 t442 bt448.1 bt452.1 true t440 t441)) else (galloonlaw03_YardTouched.j0 k (wrap64 (1 + t439)) a1 t442 bt448.1 bt452.1 true t440 t441)) else (galloonlaw03_YardTouched.j0 k (wrap64 (1 + t439)) a1 t442 bt448.1 bt452.1 true t440 t441))))) = some r := H
 have A6 := Aside0.mk A60
 clear A60
 replace H := Option.bind_eq_some_iff.mp H
 obtain ⟨⟨t446, t447⟩, A70, H⟩ := H
 replace H : ((yard_Touching.f k (wrap64 (1 + t439)) t446 t447).bind fun bt448 => ((yard_Size.f k (wrap64 (1 + t439))).bind fun bt452 => (if t445 = 0 then (if bt448.2 = 0 then (if bt452.2 = 0 then (if bt452.1 < 2 then (galloonlaw03_YardTouched.j0 k (wrap64 (1 + t439)) a1 t442 bt448.1 bt452.1 true t440 t441) else (galloonlaw03_YardTouched.j0 k (wrap64 (1 + t439)) a1 t442 bt448.1 bt452.1 ((t442.length : Int) != (bt448.1.length : Int)) t440 t441)) else (galloonlaw03_YardTouched.j0 k (wrap64 (1 + t439)) a1 t442 bt448.1 bt452.1 true t440 t441)) else (galloonlaw03_YardTouched.j0 k (wrap64 (1 + t439)) a1 t442 bt448.1 bt452.1 true t440 t441)) else (galloonlaw03_YardTouched.j0 k (wrap64 (1 + t439)) a1 t442 bt448.1 bt452.1 true t440 t441)))) = some r := H
 have A7 := Aside0.mk A70
 clear A70
 replace H := Option.bind_eq_some_iff.mp H
 obtain ⟨⟨t448, t451⟩, A80, H⟩ := H
 replace H : ((yard_Size.f k (wrap64 (1 + t439))).bind fun bt452 => (if t445 = 0 then (if t451 = 0 then (if bt452.2 = 0 then (if bt452.1 < 2 then (galloonlaw03_YardTouched.j0 k (wrap64 (1 + t439)) a1 t442 t448 bt452.1 true t440 t441) else (galloonlaw03_YardTouched.j0 k (wrap64 (1 + t439)) a1 t442 t448 bt452.1 ((t442.length : Int) != (t448.length : Int)) t440 t441)) else (galloonlaw03_YardTouched.j0 k (wrap64 (1 + t439)) a1 t442 t448 bt452.1 true t440 t441)) else (galloonlaw03_YardTouched.j0 k (wrap64 (1 + t439)) a1 t442 t448 bt452.1 true t440 t441)) else (galloonlaw03_YardTouched.j0 k (wrap64 (1 + t439)) a1 t442 t448 bt452.1 true t440 t441))) = some r := H
 have A8 := Aside0.mk A80
 clear A80
 replace H := Option.bind_eq_some_iff.mp H
 obtain ⟨⟨t452, t453⟩, A90, H⟩ := H
 replace H : (if t445 = 0 then (if t451 = 0 then (if t453 = 0 then (if t452 < 2 then (galloonlaw03_YardTouched.j0 k (wrap64 (1 + t439)) a1 t442 t448 t452 true t440 t441) else (galloonlaw03_YardTouched.j0 k (wrap64 (1 + t439)) a1 t442 t448 t452 ((t442.length : Int) != (t448.length : Int)) t440 t441)) else (galloonlaw03_YardTouched.j0 k (wrap64 (1 + t439)) a1 t442 t448 t452 true t440 t441)) else (galloonlaw03_YardTouched.j0 k (wrap64 (1 + t439)) a1 t442 t448 t452 true t440 t441)) else (galloonlaw03_YardTouched.j0 k (wrap64 (1 + t439)) a1 t442 t448 t452 true t440 t441)) = some r := H
 have A9 := Aside0.mk A90
 clear A90
 have HC10 := Aside0.mk H
 clear H
 go_enter Try.func12, Try.ntmps12
 go_upto_region 6 with (first | ((with_reducible refine gate_dst (N := 5) rfl ?_); (try (refine gate_guard (by rfl) ?_; dsimp only)); refine box_event ?hg (N := 5) ?hd (cs := #[.int .i64 a2_0, .int .i64 a2_1]) (t := 23) ?hr ?_; (case hd => rfl); (case hg => rfl); (case hr => first | (go_simp; done) | (go_simp; rfl)); intro gb438 hg w11 hbox hb; have BK438 := Aside0.mk (hbox); have GW438 := bG HB hg; have GE438 := bG HB hg; replace HB := bS HB hb; clear hb hbox hg) | ((with_reducible refine gate_callee (f := 47) rfl ?_); refine gL 22 Try.func47 #[.int .i64 a0, .int .i64 300] (h := ?_); (with_reducible refine (galloonlaw03_mod.calls a0 300 t439 _ A4.out).mono ?_); rintro e w' ⟨rfl, ⟨nd, rfl⟩⟩; refine ⟨_, rfl, ?_⟩; (try (rw [drewN_self w11]; generalize hq_ : World.drewN w11 _ = w11; have n0_ : Aside0 (w11.heap[gb438]? = some (.cells #[.int .i64 a2_0, .int .i64 a2_1] 23 (0, 0))) := ⟨by rw [← hq_]; exact (kb BK438)⟩; have n1_ : Aside0 (Below w.heap.size w w11) := ⟨by rw [← hq_]; exact (bB HB)⟩; clear BK438 HB hq_; have BK438 := n0_; have HB := n1_; clear n0_ n1_)); obtain ⟨hcz12_0, hcz12_1, hfz12_0, hfz12_1⟩ := cQ BK438) | ((with_reducible refine gate_callee (f := 26) rfl ?_); refine gL 26 Try.func26 #[.agg #[.int .i64 a2_0, .int .i64 a2_1], .int .i64 (wrap64 (1 + t439))] (h := ?_); (with_reducible refine (galloonlaw03_tame.calls k a2_0 a2_1 (wrap64 (1 + t439)) t440 t441 _ A5.out).mono ?_); rintro e w13 ⟨rfl, hb⟩; refine ⟨_, rfl, ?_⟩; replace BK438 := kB BK438 hb; replace HB := bS HB hb; (try clear hb); (try clear hb2); (try clear hk); (try clear hi); obtain ⟨hcz14_0, hcz14_1, hfz14_0, hfz14_1⟩ := cQ BK438) | ((with_reducible refine gate_callee (f := 52) rfl ?_); refine gL 30 Try.func52 #[.int .i64 (wrap64 (1 + t439)), .agg #[.int .i64 t440, .int .i64 t441]] (h := ?_); (with_reducible refine (yard_Touching.calls k (wrap64 (1 + t439)) t440 t441 t442 t445 _ A6.out).mono ?_); rintro e w15 ⟨v443, rfl, ho0, hb⟩; refine ⟨_, rfl, ?_⟩; have HO444 := Aside0.mk (Kd.R_lower (Kd.R_newB ho0 (g := gb438) (o := .cells #[.int .i64 t440, .int .i64 t441] 23 (0, 0)) (by (with_reducible repeat (first | refine blk_drewN ?_ _ | refine blk_drew ?_ | refine blk_alloc ?_ _)); refine blk_put (cs := #[.int .i64 t440, .int .i64 a2_1]) ?_ 1 _ rfl; (with_reducible repeat (first | refine blk_drewN ?_ _ | refine blk_drew ?_ | refine blk_alloc ?_ _)); refine blk_put (cs := #[.int .i64 a2_0, .int .i64 a2_1]) ?_ 0 _ rfl; (with_reducible repeat (first | refine blk_drewN ?_ _ | refine blk_drew ?_ | refine blk_alloc ?_ _)); exact BK438.out)) (below_size (bB HB))); replace BK438 := Aside0.mk (blk_below (g := gb438) (o := .cells #[.int .i64 t440, .int .i64 t441] 23 (0, 0)) (by (with_reducible repeat (first | refine blk_drewN ?_ _ | refine blk_drew ?_ | refine blk_alloc ?_ _)); refine blk_put (cs := #[.int .i64 t440, .int .i64 a2_1]) ?_ 1 _ rfl; (with_reducible repeat (first | refine blk_drewN ?_ _ | refine blk_drew ?_ | refine blk_alloc ?_ _)); refine blk_put (cs := #[.int .i64 a2_0, .int .i64 a2_1]) ?_ 0 _ rfl; (with_reducible repeat (first | refine blk_drewN ?_ _ | refine blk_drew ?_ | refine blk_alloc ?_ _)); exact BK438.out) hb); replace HB := bS HB hb; (try clear hb); (try clear hb2); (try clear hk); (try clear hi); (try clear ho0); obtain ⟨hcz16_0, hcz16_1, hfz16_0, hfz16_1⟩ := cQ BK438) | ((with_reducible refine gate_callee (f := 27) rfl ?_); refine gL 36 Try.func27 #[.agg #[.int .i64 t440, .int .i64 t441]] (h := ?_); (with_reducible refine (galloonlaw03_rest.calls t440 t441 t446 t447 _ A7.out).mono ?_); rintro e w17 ⟨rfl, hb⟩; refine ⟨_, rfl, ?_⟩; replace HO444 := rB HO444 hb; replace BK438 := kB BK438 hb; replace HB := bS HB hb; (try clear hb); (try clear hb2); (try clear hk); (try clear hi)) | ((with_reducible refine gate_callee (f := 52) rfl ?_); refine gL 37 Try.func52 #[.int .i64 (wrap64 (1 + t439)), .agg #[.int .i64 t446, .int .i64 t447]] (h := ?_); (with_reducible refine (yard_Touching.calls k (wrap64 (1 + t439)) t446 t447 t448 t451 _ A8.out).mono ?_); rintro e w18 ⟨v449, rfl, ho0, hb⟩; refine ⟨_, rfl, ?_⟩; have HO450 := Aside0.mk (Kd.R_lower (Kd.R_newB (Kd.R_new' ho0 (Kd.R_lt (by (with_reducible repeat (first | apply Kd.R_alloc | apply Kd.R_drewN | apply Kd.R_drew)); exact HO444.out))) (g := gb438) (o := .cells #[.int .i64 t440, .int .i64 t441] 23 (0, 0)) (kb BK438)) (below_size (bB HB))); replace HO444 := Aside0.mk (Kd.R_elder' (by (with_reducible repeat (first | apply Kd.R_alloc | apply Kd.R_drewN | apply Kd.R_drew)); exact HO444.out) (Kd.R_base ho0) hb); replace BK438 := kB BK438 hb; replace HB := bS HB hb; (try clear hb); (try clear hb2); (try clear hk); (try clear hi); (try clear ho0)) | ((with_reducible refine gate_callee (f := 35) rfl ?_); refine gL 42 Try.func35 #[.int .i64 (wrap64 (1 + t439))] (h := ?_); (with_reducible refine (yard_Size.calls k (wrap64 (1 + t439)) t452 t453 _ A9.out).mono ?_); rintro e w19 ⟨rfl, hb⟩; refine ⟨_, rfl, ?_⟩; replace HO444 := rB HO444 hb; replace HO450 := rB HO450 hb; replace BK438 := kB BK438 hb; replace HB := bS HB hb; (try clear hb); (try clear hb2); (try clear hk); (try clear hi)))
 (try simp only [Act.put, List.setIfInBounds_toArray, List.set_cons_zero, List.set_cons_succ])
 go_cut [65] (fun v65 wc => ∃ (kq : Nat) (x65_9 : Bool), v65 = .bool x65_9 ∧ Aside0 (galloonlaw03_YardTouched.j0 kq (wrap64 (1 + t439)) a1 t442 t448 t452 x65_9 t440 t441 = some r) ∧ Aside0 (kq ≤ k) ∧ Aside0 (Kd.R k23 23 wc w.heap.size (fun k_ => some k_ ≠ (v449 : Value).ownBlock ∧ k_ ≠ gb438) v443 t442) ∧ Aside0 (Kd.R k23 23 wc w.heap.size (fun k_ => some k_ ≠ (v443 : Value).ownBlock ∧ k_ ≠ gb438) v449 t448) ∧ Aside0 (wc.heap[gb438]? = some (.cells #[.int .i64 t440, .int .i64 t441] 23 (0, 0))) ∧ Aside0 (Below w.heap.size w wc))
 case first =>
  have H := HC10.out
  clear HC10
  by_cases c20 : t445 = 0
  case neg =>
   rw [if_neg c20] at H
   have c20b0 : (t445 == 0) = false := beq_eq_false_iff_ne.mpr c20
   have c20b1 : (t445 != 0) = true := bne_iff_ne.mpr c20
   (first | rw [c20b0] | (simp only [i64_w, i32_w]; rw [c20b0]) | skip)
   first | (exact absurd ((galloonlaw03_YardTouched.j0_bad H).symm.trans hr.out) (by decide)) | (exact absurd ((galloonlaw03_YardTouched.j2_bad H).symm.trans hr.out) (by decide))
  rw [if_pos c20] at H
  have c20b0 : (t445 == 0) = true := beq_iff_eq.mpr c20
  have c20b1 : (t445 != 0) = false := bne_eq_false_iff_eq.mpr c20
  clear c20
  (first | rw [c20b0] | (simp only [i64_w, i32_w]; rw [c20b0]) | skip)
  by_cases c21 : t451 = 0
  case neg =>
   rw [if_neg c21] at H
   have c21b0 : (t451 == 0) = false := beq_eq_false_iff_ne.mpr c21
   have c21b1 : (t451 != 0) = true := bne_iff_ne.mpr c21
   first | (exact absurd ((galloonlaw03_YardTouched.j0_bad H).symm.trans hr.out) (by decide)) | (exact absurd ((galloonlaw03_YardTouched.j2_bad H).symm.trans hr.out) (by decide))
  rw [if_pos c21] at H
  have c21b0 : (t451 == 0) = true := beq_iff_eq.mpr c21
  have c21b1 : (t451 != 0) = false := bne_eq_false_iff_eq.mpr c21
  clear c21
  by_cases c22 : t453 = 0
  case neg =>
   rw [if_neg c22] at H
   have c22b0 : (t453 == 0) = false := beq_eq_false_iff_ne.mpr c22
   have c22b1 : (t453 != 0) = true := bne_iff_ne.mpr c22
   first | (exact absurd ((galloonlaw03_YardTouched.j0_bad H).symm.trans hr.out) (by decide)) | (exact absurd ((galloonlaw03_YardTouched.j2_bad H).symm.trans hr.out) (by decide))
  rw [if_pos c22] at H
  have c22b0 : (t453 == 0) = true := beq_iff_eq.mpr c22
  have c22b1 : (t453 != 0) = false := bne_eq_false_iff_eq.mpr c22
  clear c22
  by_cases c23 : t452 < 2
  ·rw [if_pos c23] at H
   have c23b0 : decide (t452 < 2) = true := decide_eq_true c23
   clear c23
   first | (exact absurd ((galloonlaw03_YardTouched.j0_bad H).symm.trans hr.out) (by decide)) | (exact absurd ((galloonlaw03_YardTouched.j2_bad H).symm.trans hr.out) (by decide))
  ·rw [if_neg c23] at H
   have c23b0 : decide (t452 < 2) = false := decide_eq_false c23
   clear c23
   have H' := Aside0.mk H
   clear H
   obtain ⟨Ao24, co24, eo24⟩ := Kd.R_slice HO444.out
   subst eo24
   obtain ⟨Ao25, co25, eo25⟩ := Kd.R_slice HO450.out
   subst eo25
   go_wp2
   go_meet
   case rel => exact ⟨_, (((t442.length : Int) != (t448.length : Int))), (by first | rfl | (simp; done) | (simp [*]; done)), H', ⟨by first | omega | exact Nat.le_refl _⟩, ⟨by (with_reducible repeat (first | apply Kd.R_alloc | apply Kd.R_drewN | apply Kd.R_drew)); exact Kd.R_mono HO444.out (fun _ hk => ⟨hk.2, hk.1.2⟩)⟩, ⟨by (with_reducible repeat (first | apply Kd.R_alloc | apply Kd.R_drewN | apply Kd.R_drew)); exact Kd.R_mono HO450.out (fun _ hk => ⟨hk.1.2, hk.2⟩)⟩, kA BK438, bA HB⟩
 case rest =>
  clear HC10
  try clear p2
  try clear p6
  obtain ⟨kq, x65_9, rfl, HA, HJ9, HO_7, HO_9, BK438, HB⟩ := hcut
  cases kq with
  | zero => exact absurd HA.out (by simp [galloonlaw03_YardTouched.j0])
  | succ kj9 =>
   have H := HA.out
   clear HA
   simp only [galloonlaw03_YardTouched.j0] at H
   by_cases c26 : x65_9 = true
   ·subst c26
    have H1 : (some false) = some r := by rw [if_pos rfl] at H; exact H
    clear H
    have H := H1
    clear H1
    obtain rfl := Option.some.inj H
    exact absurd hr.out (by decide)
   ·replace c26 := Bool.eq_false_iff.mpr c26
    subst c26
    have H1 : ((galloonlaw03_mod.f a1 t452).bind fun t454 => ((yard_Item.f kj9 (wrap64 (1 + t439)) t454).bind fun bt455 => (galloonlaw03_YardTouched.l0 kj9 (wrap64 (1 + t439)) t442 t448 bt455.2.2 false 0 t440 t441 bt455.1 bt455.2.1))) = some r := by rw [if_neg (show ¬ (false = true) by decide)] at H; exact H
    clear H
    have H := H1
    clear H1
    replace H := Option.bind_eq_some_iff.mp H
    obtain ⟨t454, A270, H⟩ := H
    replace H : ((yard_Item.f kj9 (wrap64 (1 + t439)) t454).bind fun bt455 => (galloonlaw03_YardTouched.l0 kj9 (wrap64 (1 + t439)) t442 t448 bt455.2.2 false 0 t440 t441 bt455.1 bt455.2.1)) = some r := H
    have A27 := Aside0.mk A270
    clear A270
    replace H := Option.bind_eq_some_iff.mp H
    obtain ⟨⟨t455, t456, t457⟩, A280, H⟩ := H
    replace H : (galloonlaw03_YardTouched.l0 kj9 (wrap64 (1 + t439)) t442 t448 t457 false 0 t440 t441 t455 t456) = some r := H
    have A28 := Aside0.mk A280
    clear A280
    have H' := Aside0.mk H
    clear H
    go_wp2_with (first | ((with_reducible refine gate_callee (f := 47) rfl ?_); refine gL 70 Try.func47 #[.int .i64 a1, .int .i64 t452] (h := ?_); (with_reducible refine (galloonlaw03_mod.calls a1 t452 t454 _ A27.out).mono ?_); rintro e w' ⟨rfl, ⟨nd, rfl⟩⟩; refine ⟨_, rfl, ?_⟩; (try (rw [drewN_self wc]; generalize hq_ : World.drewN wc _ = wc; have n0_ : Aside0 (Kd.R k23 23 wc w.heap.size (fun k_ => some k_ ≠ (v449 : Value).ownBlock ∧ k_ ≠ gb438) v443 t442) := ⟨by rw [← hq_]; exact (by (with_reducible repeat (first | apply Kd.R_alloc | apply Kd.R_drewN | apply Kd.R_drew)); exact HO_7.out)⟩; have n1_ : Aside0 (Kd.R k23 23 wc w.heap.size (fun k_ => some k_ ≠ (v443 : Value).ownBlock ∧ k_ ≠ gb438) v449 t448) := ⟨by rw [← hq_]; exact (by (with_reducible repeat (first | apply Kd.R_alloc | apply Kd.R_drewN | apply Kd.R_drew)); exact HO_9.out)⟩; have n2_ : Aside0 (wc.heap[gb438]? = some (.cells #[.int .i64 t440, .int .i64 t441] 23 (0, 0))) := ⟨by rw [← hq_]; exact (kb BK438)⟩; have n3_ : Aside0 (Below w.heap.size w wc) := ⟨by rw [← hq_]; exact (bB HB)⟩; clear HO_7 HO_9 BK438 HB hq_; have HO_7 := n0_; have HO_9 := n1_; have BK438 := n2_; have HB := n3_; clear n0_ n1_ n2_ n3_))) | ((with_reducible refine gate_callee (f := 36) rfl ?_); refine gL 71 Try.func36 #[.int .i64 (wrap64 (1 + t439)), .int .i64 t454] (h := ?_); (with_reducible refine (yard_Item.calls kj9 (wrap64 (1 + t439)) t454 t455 t456 t457 _ A28.out).mono ?_); rintro e w29 ⟨rfl, hb⟩; refine ⟨_, rfl, ?_⟩; replace HO_7 := rB HO_7 hb; replace HO_9 := rB HO_9 hb; replace BK438 := kB BK438 hb; replace HB := bS HB hb; (try clear hb); (try clear hb2); (try clear hk); (try clear hi)) | ((with_reducible refine gate_dst (N := 13) rfl ?_); (try (refine gate_guard (by rfl) ?_; dsimp only)); refine box_event ?hg (N := 13) ?hd (cs := #[.int .i64 0, .int .i64 0]) (t := 23) ?hr ?_; (case hd => rfl); (case hg => rfl); (case hr => first | (go_simp; done) | (go_simp; rfl)); intro gb458 hg w30 hbox hb; replace HO_7 := Aside0.mk (Kd.R_below (Kd.R_elderB (by (with_reducible repeat (first | apply Kd.R_alloc | apply Kd.R_drewN | apply Kd.R_drew)); exact HO_7.out) gb458 (Nat.le_of_eq hg.symm)) hb); replace HO_9 := Aside0.mk (Kd.R_below (Kd.R_elderB (by (with_reducible repeat (first | apply Kd.R_alloc | apply Kd.R_drewN | apply Kd.R_drew)); exact HO_9.out) gb458 (Nat.le_of_eq hg.symm)) hb); have BK458 := Aside0.mk (hbox); have GW458 := bG HB hg; have GE458 := bG HB hg; replace HB := bS HB hb; have NB438_458 := nL BK438 hg; have NB458_438 := nG BK438 hg; replace BK438 := kB BK438 hb; clear hb hbox hg; have hnb31 := NB458_438.out; have hnc31 := NB438_458.out; obtain ⟨hcz32_0, hcz32_1, hfz32_0, hfz32_1⟩ := cQ BK458))
    go_loopg [15, 16] kj9 (fun kq v15 v16 w' => ∃ (x15_2 : Bool) (x16_2 : Int), v15 = .bool x15_2 ∧ v16 = .int .i64 x16_2 ∧ Aside0 (galloonlaw03_YardTouched.l0 kq (wrap64 (1 + t439)) t442 t448 t457 x15_2 x16_2 t440 t441 t455 t456 = some r) ∧ Aside0 (kq ≤ kj9) ∧ Aside0 (Kd.R k23 23 w' w.heap.size (fun k_ => some k_ ≠ (v449 : Value).ownBlock ∧ k_ ≠ gb438 ∧ k_ ≠ gb458) v443 t442) ∧ Aside0 (Kd.R k23 23 w' w.heap.size (fun k_ => some k_ ≠ (v443 : Value).ownBlock ∧ k_ ≠ gb438 ∧ k_ ≠ gb458) v449 t448) ∧ Aside0 (w'.heap[gb438]? = some (.cells #[.int .i64 t440, .int .i64 t441] 23 (0, 0))) ∧ Aside0 (w'.heap[gb458]? = some (.cells #[.int .i64 t455, .int .i64 t456] 23 (0, 0))) ∧ Aside0 (Below w.heap.size w w'))
    case atStart => exact ⟨(false), (0), (by first | rfl | (simp; done) | (simp [*]; done)), (by first | rfl | (simp; done) | (simp [*]; done)), H', ⟨Nat.le_refl _⟩, ⟨by (with_reducible repeat (first | apply Kd.R_alloc | apply Kd.R_drewN | apply Kd.R_drew)); exact Kd.R_mono (Kd.R_far (p := ⟨gb458, 1, none⟩) (Kd.R_far (p := ⟨gb458, 0, none⟩) (Kd.R_mono HO_7.out (fun k_ hk => (⟨hk, hk.2⟩ : _ ∧ k_ ≠ gb458))) (fun _ hk => hk.2) (.int .i64 t455)) (fun _ hk => hk.2) (.int .i64 t456)) (fun _ hk => ⟨hk.1.1.1, ⟨hk.1.1.2, hk.1.2⟩⟩)⟩, ⟨by (with_reducible repeat (first | apply Kd.R_alloc | apply Kd.R_drewN | apply Kd.R_drew)); exact Kd.R_mono (Kd.R_far (p := ⟨gb458, 1, none⟩) (Kd.R_far (p := ⟨gb458, 0, none⟩) (Kd.R_mono HO_9.out (fun k_ hk => (⟨hk, hk.2⟩ : _ ∧ k_ ≠ gb458))) (fun _ hk => hk.2) (.int .i64 t455)) (fun _ hk => hk.2) (.int .i64 t456)) (fun _ hk => ⟨hk.1.1.1, ⟨hk.1.1.2, hk.1.2⟩⟩)⟩, kG BK438, ⟨by (with_reducible repeat (first | refine blk_drewN ?_ _ | refine blk_drew ?_ | refine blk_alloc ?_ _)); refine blk_put (cs := #[.int .i64 t455, .int .i64 0]) ?_ 1 _ rfl; (with_reducible repeat (first | refine blk_drewN ?_ _ | refine blk_drew ?_ | refine blk_alloc ?_ _)); refine blk_put (cs := #[.int .i64 0, .int .i64 0]) ?_ 0 _ rfl; (with_reducible repeat (first | refine blk_drewN ?_ _ | refine blk_drew ?_ | refine blk_alloc ?_ _)); exact BK458.out⟩, bA HB⟩
    case round =>
     clear H'
     try clear p2
     try clear p6
     try clear p2
     try clear p6
     obtain ⟨x15_2, x16_2, rfl, rfl, HA, HK2, HO_7, HO_9, BK438, BK458, HB⟩ := hrel
     cases gk with
     | zero => exact absurd HA.out (by simp [galloonlaw03_YardTouched.l0])
     | succ k2 =>
      have H := HA.out
      clear HA
      simp only [galloonlaw03_YardTouched.l0] at H
      by_cases c33 : x16_2 < (t442.length : Int)
      ·rw [if_pos c33] at H
       have c33b0 : decide (x16_2 < (t442.length : Int)) = true := decide_eq_true c33
       clear c33
       have HC34 := Aside0.mk H
       clear H
       obtain ⟨Ao35, co35, eo35⟩ := Kd.R_slice HO_7.out
       subst eo35
       go_upto_region 13 with (fail)
       go_cut [145] (fun v145 wc => ∃ (kq : Nat) (x145_33 : Bool), v145 = .bool x145_33 ∧ Aside0 (galloonlaw03_YardTouched.j2 kq (wrap64 (1 + t439)) t442 t448 t457 x15_2 x16_2 x145_33 t440 t441 t455 t456 = some r) ∧ Aside0 (kq ≤ k2) ∧ Aside0 (Kd.R k23 23 wc w.heap.size (fun k_ => some k_ ≠ (v449 : Value).ownBlock ∧ k_ ≠ gb438 ∧ k_ ≠ gb458) (.slice Ao35 t442.length co35) t442) ∧ Aside0 (Kd.R k23 23 wc w.heap.size (fun k_ => some k_ ≠ ((.slice Ao35 t442.length co35) : Value).ownBlock ∧ k_ ≠ gb438 ∧ k_ ≠ gb458) v449 t448) ∧ Aside0 (wc.heap[gb438]? = some (.cells #[.int .i64 t440, .int .i64 t441] 23 (0, 0))) ∧ Aside0 (wc.heap[gb458]? = some (.cells #[.int .i64 t455, .int .i64 t456] 23 (0, 0))) ∧ Aside0 (Below w.heap.size w wc))
       case first =>
        have H := HC34.out
        clear HC34
        by_cases c36 : 0 ≤ x16_2
        case neg =>
         rw [if_neg c36] at H
         exact absurd H (by simp)
        rw [if_pos c36] at H
        have c36b0 : decide (0 ≤ x16_2) = true := decide_eq_true c36
        clear c36
        (first | rw [c36b0] | (simp only [i64_w, i32_w]; rw [c36b0]) | skip)
        replace H := Option.bind_eq_some_iff.mp H
        obtain ⟨t460, A370, H⟩ := H
        replace H : (if t460 = true then (if ((rd_T23 t442 x16_2).f1) > (wrap64 (1 + t439)) then (galloonlaw03_YardTouched.j2 k2 (wrap64 (1 + t439)) t442 t448 t457 x15_2 x16_2 true t440 t441 t455 t456) else ((galloonref03_Neighbors.f ((rd_T23 t442 x16_2).f0) ((rd_T23 t442 x16_2).f1) t440 t441).bind fun t463 => (if t463 = true then (if 0 ≤ (wrap64 ((wrap64 ((t448.length : Int) - 1)) - x16_2)) then (if (wrap64 ((wrap64 ((t448.length : Int) - 1)) - x16_2)) < (t448.length : Int) then ((galloonlaw03_rest.f ((rd_T23 t442 x16_2).f0) ((rd_T23 t442 x16_2).f1)).bind fun bt466 => (if (!(((rd_T23 t448 (wrap64 ((wrap64 ((t448.length : Int) - 1)) - x16_2))).f0) == bt466.1) || (!(((rd_T23 t448 (wrap64 ((wrap64 ((t448.length : Int) - 1)) - x16_2))).f1) == bt466.2))) = true then (galloonlaw03_YardTouched.j2 k2 (wrap64 (1 + t439)) t442 t448 t457 x15_2 x16_2 true t440 t441 t455 t456) else (if x16_2 > 0 then (if 0 ≤ (wrap64 (x16_2 - 1)) then (if (wrap64 (x16_2 - 1)) < (t442.length : Int) then ((galloonref03_Less.f ((rd_T23 t442 (wrap64 (x16_2 - 1))).f0) ((rd_T23 t442 (wrap64 (x16_2 - 1))).f1) ((rd_T23 t442 x16_2).f0) ((rd_T23 t442 x16_2).f1)).bind fun t470 => (galloonlaw03_YardTouched.j2 k2 (wrap64 (1 + t439)) t442 t448 t457 x15_2 x16_2 (!t470) t440 t441 t455 t456)) else (none)) else (none)) else (galloonlaw03_YardTouched.j2 k2 (wrap64 (1 + t439)) t442 t448 t457 x15_2 x16_2 false t440 t441 t455 t456)))) else (none)) else (none)) else ((galloonref03_Neighbors.f t440 t441 ((rd_T23 t442 x16_2).f0) ((rd_T23 t442 x16_2).f1)).bind fun t472 => (if t472 = true then (if 0 ≤ (wrap64 ((wrap64 ((t448.length : Int) - 1)) - x16_2)) then (if (wrap64 ((wrap64 ((t448.length : Int) - 1)) - x16_2)) < (t448.length : Int) then ((galloonlaw03_rest.f ((rd_T23 t442 x16_2).f0) ((rd_T23 t442 x16_2).f1)).bind fun bt475 => (if (!(((rd_T23 t448 (wrap64 ((wrap64 ((t448.length : Int) - 1)) - x16_2))).f0) == bt475.1) || (!(((rd_T23 t448 (wrap64 ((wrap64 ((t448.length : Int) - 1)) - x16_2))).f1) == bt475.2))) = true then (galloonlaw03_YardTouched.j2 k2 (wrap64 (1 + t439)) t442 t448 t457 x15_2 x16_2 true t440 t441 t455 t456) else (if x16_2 > 0 then (if 0 ≤ (wrap64 (x16_2 - 1)) then (if (wrap64 (x16_2 - 1)) < (t442.length : Int) then ((galloonref03_Less.f ((rd_T23 t442 (wrap64 (x16_2 - 1))).f0) ((rd_T23 t442 (wrap64 (x16_2 - 1))).f1) ((rd_T23 t442 x16_2).f0) ((rd_T23 t442 x16_2).f1)).bind fun t479 => (galloonlaw03_YardTouched.j2 k2 (wrap64 (1 + t439)) t442 t448 t457 x15_2 x16_2 (!t479) t440 t441 t455 t456)) else (none)) else (none)) else (galloonlaw03_YardTouched.j2 k2 (wrap64 (1 + t439)) t442 t448 t457 x15_2 x16_2 false t440 t441 t455 t456)))) else (none)) else (none)) else (galloonlaw03_YardTouched.j2 k2 (wrap64 (1 + t439)) t442 t448 t457 x15_2 x16_2 true t440 t441 t455 t456)))))) else (galloonlaw03_YardTouched.j2 k2 (wrap64 (1 + t439)) t442 t448 t457 x15_2 x16_2 true t440 t441 t455 t456)) = some r := H
        have A37 := Aside0.mk A370
        clear A370
        by_cases c38 : t460 = true
        case neg =>
         replace c38 := Bool.eq_false_iff.mpr c38
         subst c38
         have H1 : (galloonlaw03_YardTouched.j2 k2 (wrap64 (1 + t439)) t442 t448 t457 x15_2 x16_2 true t440 t441 t455 t456) = some r := by rw [if_neg (show ¬ (false = true) by decide)] at H; exact H
         clear H
         have H := H1
         clear H1
         first | (exact absurd ((galloonlaw03_YardTouched.j0_bad H).symm.trans hr.out) (by decide)) | (exact absurd ((galloonlaw03_YardTouched.j2_bad H).symm.trans hr.out) (by decide))
        subst c38
        have H1 : (if ((rd_T23 t442 x16_2).f1) > (wrap64 (1 + t439)) then (galloonlaw03_YardTouched.j2 k2 (wrap64 (1 + t439)) t442 t448 t457 x15_2 x16_2 true t440 t441 t455 t456) else ((galloonref03_Neighbors.f ((rd_T23 t442 x16_2).f0) ((rd_T23 t442 x16_2).f1) t440 t441).bind fun t463 => (if t463 = true then (if 0 ≤ (wrap64 ((wrap64 ((t448.length : Int) - 1)) - x16_2)) then (if (wrap64 ((wrap64 ((t448.length : Int) - 1)) - x16_2)) < (t448.length : Int) then ((galloonlaw03_rest.f ((rd_T23 t442 x16_2).f0) ((rd_T23 t442 x16_2).f1)).bind fun bt466 => (if (!(((rd_T23 t448 (wrap64 ((wrap64 ((t448.length : Int) - 1)) - x16_2))).f0) == bt466.1) || (!(((rd_T23 t448 (wrap64 ((wrap64 ((t448.length : Int) - 1)) - x16_2))).f1) == bt466.2))) = true then (galloonlaw03_YardTouched.j2 k2 (wrap64 (1 + t439)) t442 t448 t457 x15_2 x16_2 true t440 t441 t455 t456) else (if x16_2 > 0 then (if 0 ≤ (wrap64 (x16_2 - 1)) then (if (wrap64 (x16_2 - 1)) < (t442.length : Int) then ((galloonref03_Less.f ((rd_T23 t442 (wrap64 (x16_2 - 1))).f0) ((rd_T23 t442 (wrap64 (x16_2 - 1))).f1) ((rd_T23 t442 x16_2).f0) ((rd_T23 t442 x16_2).f1)).bind fun t470 => (galloonlaw03_YardTouched.j2 k2 (wrap64 (1 + t439)) t442 t448 t457 x15_2 x16_2 (!t470) t440 t441 t455 t456)) else (none)) else (none)) else (galloonlaw03_YardTouched.j2 k2 (wrap64 (1 + t439)) t442 t448 t457 x15_2 x16_2 false t440 t441 t455 t456)))) else (none)) else (none)) else ((galloonref03_Neighbors.f t440 t441 ((rd_T23 t442 x16_2).f0) ((rd_T23 t442 x16_2).f1)).bind fun t472 => (if t472 = true then (if 0 ≤ (wrap64 ((wrap64 ((t448.length : Int) - 1)) - x16_2)) then (if (wrap64 ((wrap64 ((t448.length : Int) - 1)) - x16_2)) < (t448.length : Int) then ((galloonlaw03_rest.f ((rd_T23 t442 x16_2).f0) ((rd_T23 t442 x16_2).f1)).bind fun bt475 => (if (!(((rd_T23 t448 (wrap64 ((wrap64 ((t448.length : Int) - 1)) - x16_2))).f0) == bt475.1) || (!(((rd_T23 t448 (wrap64 ((wrap64 ((t448.length : Int) - 1)) - x16_2))).f1) == bt475.2))) = true then (galloonlaw03_YardTouched.j2 k2 (wrap64 (1 + t439)) t442 t448 t457 x15_2 x16_2 true t440 t441 t455 t456) else (if x16_2 > 0 then (if 0 ≤ (wrap64 (x16_2 - 1)) then (if (wrap64 (x16_2 - 1)) < (t442.length : Int) then ((galloonref03_Less.f ((rd_T23 t442 (wrap64 (x16_2 - 1))).f0) ((rd_T23 t442 (wrap64 (x16_2 - 1))).f1) ((rd_T23 t442 x16_2).f0) ((rd_T23 t442 x16_2).f1)).bind fun t479 => (galloonlaw03_YardTouched.j2 k2 (wrap64 (1 + t439)) t442 t448 t457 x15_2 x16_2 (!t479) t440 t441 t455 t456)) else (none)) else (none)) else (galloonlaw03_YardTouched.j2 k2 (wrap64 (1 + t439)) t442 t448 t457 x15_2 x16_2 false t440 t441 t455 t456)))) else (none)) else (none)) else (galloonlaw03_YardTouched.j2 k2 (wrap64 (1 + t439)) t442 t448 t457 x15_2 x16_2 true t440 t441 t455 t456)))))) = some r := by rw [if_pos rfl] at H; exact H
        clear H
        have H := H1
        clear H1
        by_cases c39 : ((rd_T23 t442 x16_2).f1) > (wrap64 (1 + t439))
        ·rw [if_pos c39] at H
         have c39b0 : decide ((wrap64 (1 + t439)) < ((rd_T23 t442 x16_2).f1)) = true := decide_eq_true c39
         clear c39
         first | (exact absurd ((galloonlaw03_YardTouched.j0_bad H).symm.trans hr.out) (by decide)) | (exact absurd ((galloonlaw03_YardTouched.j2_bad H).symm.trans hr.out) (by decide))
        ·rw [if_neg c39] at H
         have c39b0 : decide ((wrap64 (1 + t439)) < ((rd_T23 t442 x16_2).f1)) = false := decide_eq_false c39
         clear c39
         replace H := Option.bind_eq_some_iff.mp H
         obtain ⟨t463, A420, H⟩ := H
         replace H : (if t463 = true then (if 0 ≤ (wrap64 ((wrap64 ((t448.length : Int) - 1)) - x16_2)) then (if (wrap64 ((wrap64 ((t448.length : Int) - 1)) - x16_2)) < (t448.length : Int) then ((galloonlaw03_rest.f ((rd_T23 t442 x16_2).f0) ((rd_T23 t442 x16_2).f1)).bind fun bt466 => (if (!(((rd_T23 t448 (wrap64 ((wrap64 ((t448.length : Int) - 1)) - x16_2))).f0) == bt466.1) || (!(((rd_T23 t448 (wrap64 ((wrap64 ((t448.length : Int) - 1)) - x16_2))).f1) == bt466.2))) = true then (galloonlaw03_YardTouched.j2 k2 (wrap64 (1 + t439)) t442 t448 t457 x15_2 x16_2 true t440 t441 t455 t456) else (if x16_2 > 0 then (if 0 ≤ (wrap64 (x16_2 - 1)) then (if (wrap64 (x16_2 - 1)) < (t442.length : Int) then ((galloonref03_Less.f ((rd_T23 t442 (wrap64 (x16_2 - 1))).f0) ((rd_T23 t442 (wrap64 (x16_2 - 1))).f1) ((rd_T23 t442 x16_2).f0) ((rd_T23 t442 x16_2).f1)).bind fun t470 => (galloonlaw03_YardTouched.j2 k2 (wrap64 (1 + t439)) t442 t448 t457 x15_2 x16_2 (!t470) t440 t441 t455 t456)) else (none)) else (none)) else (galloonlaw03_YardTouched.j2 k2 (wrap64 (1 + t439)) t442 t448 t457 x15_2 x16_2 false t440 t441 t455 t456)))) else (none)) else (none)) else ((galloonref03_Neighbors.f t440 t441 ((rd_T23 t442 x16_2).f0) ((rd_T23 t442 x16_2).f1)).bind fun t472 => (if t472 = true then (if 0 ≤ (wrap64 ((wrap64 ((t448.length : Int) - 1)) - x16_2)) then (if (wrap64 ((wrap64 ((t448.length : Int) - 1)) - x16_2)) < (t448.length : Int) then ((galloonlaw03_rest.f ((rd_T23 t442 x16_2).f0) ((rd_T23 t442 x16_2).f1)).bind fun bt475 => (if (!(((rd_T23 t448 (wrap64 ((wrap64 ((t448.length : Int) - 1)) - x16_2))).f0) == bt475.1) || (!(((rd_T23 t448 (wrap64 ((wrap64 ((t448.length : Int) - 1)) - x16_2))).f1) == bt475.2))) = true then (galloonlaw03_YardTouched.j2 k2 (wrap64 (1 + t439)) t442 t448 t457 x15_2 x16_2 true t440 t441 t455 t456) else (if x16_2 > 0 then (if 0 ≤ (wrap64 (x16_2 - 1)) then (if (wrap64 (x16_2 - 1)) < (t442.length : Int) then ((galloonref03_Less.f ((rd_T23 t442 (wrap64 (x16_2 - 1))).f0) ((rd_T23 t442 (wrap64 (x16_2 - 1))).f1) ((rd_T23 t442 x16_2).f0) ((rd_T23 t442 x16_2).f1)).bind fun t479 => (galloonlaw03_YardTouched.j2 k2 (wrap64 (1 + t439)) t442 t448 t457 x15_2 x16_2 (!t479) t440 t441 t455 t456)) else (none)) else (none)) else (galloonlaw03_YardTouched.j2 k2 (wrap64 (1 + t439)) t442 t448 t457 x15_2 x16_2 false t440 t441 t455 t456)))) else (none)) else (none)) else (galloonlaw03_YardTouched.j2 k2 (wrap64 (1 + t439)) t442 t448 t457 x15_2 x16_2 true t440 t441 t455 t456)))) = some r := H
         have A42 := Aside0.mk A420
         clear A420
         by_cases c43 : t463 = true
         ·subst c43
          have H1 : (if 0 ≤ (wrap64 ((wrap64 ((t448.length : Int) - 1)) - x16_2)) then (if (wrap64 ((wrap64 ((t448.length : Int) - 1)) - x16_2)) < (t448.length : Int) then ((galloonlaw03_rest.f ((rd_T23 t442 x16_2).f0) ((rd_T23 t442 x16_2).f1)).bind fun bt466 => (if (!(((rd_T23 t448 (wrap64 ((wrap64 ((t448.length : Int) - 1)) - x16_2))).f0) == bt466.1) || (!(((rd_T23 t448 (wrap64 ((wrap64 ((t448.length : Int) - 1)) - x16_2))).f1) == bt466.2))) = true then (galloonlaw03_YardTouched.j2 k2 (wrap64 (1 + t439)) t442 t448 t457 x15_2 x16_2 true t440 t441 t455 t456) else (if x16_2 > 0 then (if 0 ≤ (wrap64 (x16_2 - 1)) then (if (wrap64 (x16_2 - 1)) < (t442.length : Int) then ((galloonref03_Less.f ((rd_T23 t442 (wrap64 (x16_2 - 1))).f0) ((rd_T23 t442 (wrap64 (x16_2 - 1))).f1) ((rd_T23 t442 x16_2).f0) ((rd_T23 t442 x16_2).f1)).bind fun t470 => (galloonlaw03_YardTouched.j2 k2 (wrap64 (1 + t439)) t442 t448 t457 x15_2 x16_2 (!t470) t440 t441 t455 t456)) else (none)) else (none)) else (galloonlaw03_YardTouched.j2 k2 (wrap64 (1 + t439)) t442 t448 t457 x15_2 x16_2 false t440 t441 t455 t456)))) else (none)) else (none)) = some r := by rw [if_pos rfl] at H; exact H
          clear H
          have H := H1
          clear H1
          obtain ⟨ji44, hji44⟩ : ∃ j_ : Int, (wrap64 ((wrap64 ((t448.length : Int) - 1)) - x16_2)) = j_ := ⟨_, rfl⟩
          replace H : (if 0 ≤ (ji44) then (if (ji44) < (t448.length : Int) then ((galloonlaw03_rest.f ((rd_T23 t442 x16_2).f0) ((rd_T23 t442 x16_2).f1)).bind fun bt466 => (if (!(((rd_T23 t448 (ji44)).f0) == bt466.1) || (!(((rd_T23 t448 (ji44)).f1) == bt466.2))) = true then (galloonlaw03_YardTouched.j2 k2 (wrap64 (1 + t439)) t442 t448 t457 x15_2 x16_2 true t440 t441 t455 t456) else (if x16_2 > 0 then (if 0 ≤ (wrap64 (x16_2 - 1)) then (if (wrap64 (x16_2 - 1)) < (t442.length : Int) then ((galloonref03_Less.f ((rd_T23 t442 (wrap64 (x16_2 - 1))).f0) ((rd_T23 t442 (wrap64 (x16_2 - 1))).f1) ((rd_T23 t442 x16_2).f0) ((rd_T23 t442 x16_2).f1)).bind fun t470 => (galloonlaw03_YardTouched.j2 k2 (wrap64 (1 + t439)) t442 t448 t457 x15_2 x16_2 (!t470) t440 t441 t455 t456)) else (none)) else (none)) else (galloonlaw03_YardTouched.j2 k2 (wrap64 (1 + t439)) t442 t448 t457 x15_2 x16_2 false t440 t441 t455 t456)))) else (none)) else (none)) = some r := by first | (rw [hji44] at H; exact H) | (simp only [hji44] at H ⊢; exact H)
          (try rw [hji44] at A37)
          (try rw [hji44] at A42)
          have hji44w : (IntKind.i64.wrap ((wrap64 ((t448.length : Int) - 1)) - x16_2)) = ji44 := (i64_w _).trans hji44
          by_cases c45 : 0 ≤ (ji44)
          case neg =>
           rw [if_neg c45] at H
           exact absurd H (by simp)
          rw [if_pos c45] at H
          have c45b0 : decide (0 ≤ (ji44)) = true := decide_eq_true c45
          clear c45
          by_cases c46 : (ji44) < (t448.length : Int)
          case neg =>
           rw [if_neg c46] at H
           exact absurd H (by simp)
          rw [if_pos c46] at H
          have c46b0 : decide ((ji44) < (t448.length : Int)) = true := decide_eq_true c46
          clear c46
          replace H := Option.bind_eq_some_iff.mp H
          obtain ⟨⟨t466, t467⟩, A470, H⟩ := H
          replace H : (if (!(((rd_T23 t448 (ji44)).f0) == t466) || (!(((rd_T23 t448 (ji44)).f1) == t467))) = true then (galloonlaw03_YardTouched.j2 k2 (wrap64 (1 + t439)) t442 t448 t457 x15_2 x16_2 true t440 t441 t455 t456) else (if x16_2 > 0 then (if 0 ≤ (wrap64 (x16_2 - 1)) then (if (wrap64 (x16_2 - 1)) < (t442.length : Int) then ((galloonref03_Less.f ((rd_T23 t442 (wrap64 (x16_2 - 1))).f0) ((rd_T23 t442 (wrap64 (x16_2 - 1))).f1) ((rd_T23 t442 x16_2).f0) ((rd_T23 t442 x16_2).f1)).bind fun t470 => (galloonlaw03_YardTouched.j2 k2 (wrap64 (1 + t439)) t442 t448 t457 x15_2 x16_2 (!t470) t440 t441 t455 t456)) else (none)) else (none)) else (galloonlaw03_YardTouched.j2 k2 (wrap64 (1 + t439)) t442 t448 t457 x15_2 x16_2 false t440 t441 t455 t456))) = some r := H
          have A47 := Aside0.mk A470
          clear A470
          by_cases c48 : (!(((rd_T23 t448 (ji44)).f0) == t466) || (!(((rd_T23 t448 (ji44)).f1) == t467))) = true
          ·rw [if_pos c48] at H
           have c48b0 : (!(((rd_T23 t448 (ji44)).f0) == t466) || (!(((rd_T23 t448 (ji44)).f1) == t467))) = true := c48
           clear c48
           first | (exact absurd ((galloonlaw03_YardTouched.j0_bad H).symm.trans hr.out) (by decide)) | (exact absurd ((galloonlaw03_YardTouched.j2_bad H).symm.trans hr.out) (by decide))
          ·rw [if_neg c48] at H
           have c48b0 : (!(((rd_T23 t448 (ji44)).f0) == t466) || (!(((rd_T23 t448 (ji44)).f1) == t467))) = false := by simpa using c48
           clear c48
           by_cases c54 : x16_2 > 0
           ·rw [if_pos c54] at H
            have c54b0 : decide (0 < x16_2) = true := decide_eq_true c54
            clear c54
            obtain ⟨ji55, hji55⟩ : ∃ j_ : Int, (wrap64 (x16_2 - 1)) = j_ := ⟨_, rfl⟩
            replace H : (if 0 ≤ (ji55) then (if (ji55) < (t442.length : Int) then ((galloonref03_Less.f ((rd_T23 t442 (ji55)).f0) ((rd_T23 t442 (ji55)).f1) ((rd_T23 t442 x16_2).f0) ((rd_T23 t442 x16_2).f1)).bind fun t470 => (galloonlaw03_YardTouched.j2 k2 (wrap64 (1 + t439)) t442 t448 t457 x15_2 x16_2 (!t470) t440 t441 t455 t456)) else (none)) else (none)) = some r := by first | (rw [hji55] at H; exact H) | (simp only [hji55] at H ⊢; exact H)
            (try rw [hji55] at A37)
            (try rw [hji55] at A42)
            (try rw [hji55] at A47)
            have hji55w : (IntKind.i64.wrap (x16_2 - 1)) = ji55 := (i64_w _).trans hji55
            by_cases c56 : 0 ≤ (ji55)
            case neg =>
             rw [if_neg c56] at H
             exact absurd H (by simp)
            rw [if_pos c56] at H
            have c56b0 : decide (0 ≤ (ji55)) = true := decide_eq_true c56
            clear c56
            by_cases c57 : (ji55) < (t442.length : Int)
            case neg =>
             rw [if_neg c57] at H
             exact absurd H (by simp)
            rw [if_pos c57] at H
            have c57b0 : decide ((ji55) < (t442.length : Int)) = true := decide_eq_true c57
            clear c57
            replace H := Option.bind_eq_some_iff.mp H
            obtain ⟨t470, A580, H⟩ := H
            replace H : (galloonlaw03_YardTouched.j2 k2 (wrap64 (1 + t439)) t442 t448 t457 x15_2 x16_2 (!t470) t440 t441 t455 t456) = some r := H
            have A58 := Aside0.mk A580
            clear A580
            have H' := Aside0.mk H
            clear H
            try go_wp2
            replace HO_7 := Aside0.mk (Kd.R_drew HO_7.out)
            replace HO_9 := Aside0.mk (Kd.R_drew HO_9.out)
            replace BK438 := Aside0.mk (blk_drew BK438.out)
            replace BK458 := Aside0.mk (blk_drew BK458.out)
            replace HB := Aside0.mk (below_drew1 HB.out)
            have p459 : 0 ≤ (x16_2 : Int) := oD
            have q459 : x16_2 < (t442.length : Int) := oD
            obtain ⟨ad459, e459, hx459_0, hx459_1⟩ := at_T23 (Kd.R_reads' HO_7.out).2.2 x16_2 p459 q459
            cases e459
            replace p459 := eq_true p459
            replace q459 := eq_true q459
            have p461 : 0 ≤ (x16_2 : Int) := oD
            have q461 : x16_2 < (t442.length : Int) := oD
            obtain ⟨ad461, e461, hx461_0, hx461_1⟩ := at_T23 (Kd.R_reads' HO_7.out).2.2 x16_2 p461 q461
            obtain rfl : ad459 = ad461 := (by injection e461)
            replace p461 := eq_true p461
            replace q461 := eq_true q461
            have p462 : 0 ≤ (x16_2 : Int) := oD
            have q462 : x16_2 < (t442.length : Int) := oD
            obtain ⟨ad462, e462, hx462_0, hx462_1⟩ := at_T23 (Kd.R_reads' HO_7.out).2.2 x16_2 p462 q462
            obtain rfl : ad459 = ad462 := (by injection e462)
            replace p462 := eq_true p462
            replace q462 := eq_true q462
            obtain ⟨Ao9_, co9_, eo9_⟩ := Kd.R_slice HO_9.out
            subst eo9_
            have p464 : 0 ≤ ((ji44) : Int) := oD
            have q464 : (ji44) < (t448.length : Int) := oD
            obtain ⟨ad464, e464, hx464_0, hx464_1⟩ := at_T23 (Kd.R_reads' HO_9.out).2.2 (ji44) p464 q464
            cases e464
            replace p464 := eq_true p464
            replace q464 := eq_true q464
            have p465 : 0 ≤ (x16_2 : Int) := oD
            have q465 : x16_2 < (t442.length : Int) := oD
            obtain ⟨ad465, e465, hx465_0, hx465_1⟩ := at_T23 (Kd.R_reads' HO_7.out).2.2 x16_2 p465 q465
            obtain rfl : ad459 = ad465 := (by injection e465)
            replace p465 := eq_true p465
            replace q465 := eq_true q465
            have p468 : 0 ≤ ((ji55) : Int) := oD
            have q468 : (ji55) < (t442.length : Int) := oD
            obtain ⟨ad468, e468, hx468_0, hx468_1⟩ := at_T23 (Kd.R_reads' HO_7.out).2.2 (ji55) p468 q468
            obtain rfl : ad459 = ad468 := (by injection e468)
            replace p468 := eq_true p468
            replace q468 := eq_true q468
            have p469 : 0 ≤ (x16_2 : Int) := oD
            have q469 : x16_2 < (t442.length : Int) := oD
            obtain ⟨ad469, e469, hx469_0, hx469_1⟩ := at_T23 (Kd.R_reads' HO_7.out).2.2 x16_2 p469 q469
            obtain rfl : ad459 = ad469 := (by injection e469)
            replace p469 := eq_true p469
            replace q469 := eq_true q469
            refine start_ (n := 66) (S := fun w' => w'.cell? ⟨gb438, 0, none⟩ = some (.int .i64 t440) ∧ w'.cell? ⟨gb438, 1, none⟩ = some (.int .i64 t441) ∧ w'.cell? (ad459.add ((x16_2).toNat * 2)) = some (.int .i64 ((rd_T23 t442 x16_2).f0)) ∧ w'.cell? ⟨(ad459.add ((x16_2).toNat * 2)).block, (ad459.add ((x16_2).toNat * 2)).off + 1, none⟩ = some (.int .i64 ((rd_T23 t442 x16_2).f1)) ∧ w'.cell? (ad459.add ((x16_2).toNat * 2)) = some (.int .i64 ((rd_T23 t442 x16_2).f0)) ∧ w'.cell? ⟨(ad459.add ((x16_2).toNat * 2)).block, (ad459.add ((x16_2).toNat * 2)).off + 1, none⟩ = some (.int .i64 ((rd_T23 t442 x16_2).f1)) ∧ w'.cell? (ad459.add ((x16_2).toNat * 2)) = some (.int .i64 ((rd_T23 t442 x16_2).f0)) ∧ w'.cell? ⟨(ad459.add ((x16_2).toNat * 2)).block, (ad459.add ((x16_2).toNat * 2)).off + 1, none⟩ = some (.int .i64 ((rd_T23 t442 x16_2).f1)) ∧ w'.cell? (ad464.add (((ji44)).toNat * 2)) = some (.int .i64 ((rd_T23 t448 (ji44)).f0)) ∧ w'.cell? ⟨(ad464.add (((ji44)).toNat * 2)).block, (ad464.add (((ji44)).toNat * 2)).off + 1, none⟩ = some (.int .i64 ((rd_T23 t448 (ji44)).f1)) ∧ w'.cell? (ad459.add ((x16_2).toNat * 2)) = some (.int .i64 ((rd_T23 t442 x16_2).f0)) ∧ w'.cell? ⟨(ad459.add ((x16_2).toNat * 2)).block, (ad459.add ((x16_2).toNat * 2)).off + 1, none⟩ = some (.int .i64 ((rd_T23 t442 x16_2).f1)) ∧ w'.cell? (ad459.add (((ji55)).toNat * 2)) = some (.int .i64 ((rd_T23 t442 (ji55)).f0)) ∧ w'.cell? ⟨(ad459.add (((ji55)).toNat * 2)).block, (ad459.add (((ji55)).toNat * 2)).off + 1, none⟩ = some (.int .i64 ((rd_T23 t442 (ji55)).f1)) ∧ w'.cell? (ad459.add ((x16_2).toNat * 2)) = some (.int .i64 ((rd_T23 t442 x16_2).f0)) ∧ w'.cell? ⟨(ad459.add ((x16_2).toNat * 2)).block, (ad459.add ((x16_2).toNat * 2)).off + 1, none⟩ = some (.int .i64 ((rd_T23 t442 x16_2).f1))) (ds := []) (lb 66 0) (by kernel_rfl) rfl (by kernel_rfl) ⟨(blk_cell BK438.out 0).trans rfl, (blk_cell BK438.out 1).trans rfl, hx459_0, hx459_1, hx461_0, hx461_1, hx462_0, hx462_1, hx464_0, hx464_1, hx465_0, hx465_1, hx468_0, hx468_1, hx469_0, hx469_1⟩ (fun hHeld => ?_); refine with_tabW galloonlaw03_YardTouched.tab13 galloonlaw03_YardTouched.bits13 (fun HT_ HW_ => ?_)
            generalize wr.drew = w59 at HO_7 HO_9 BK438 BK458 HB hx459_0 hx459_1 hx461_0 hx461_1 hx462_0 hx462_1 hx464_0 hx464_1 hx465_0 hx465_1 hx468_0 hx468_1 hx469_0 hx469_1 hHeld ⊢
            refine pk HT_ 66 1 0 80 (h := ?_)
            refine pk HT_ 66 3 1 81 (h := ?_)
            refine pk HT_ 66 7 2 82 (h := ?_)
            refine tk16 HT_ HW_ hHeld 66 15 3 83 (h := ?_)
            refine one_ (i := 4) (N := some 84) (lb 66 31) rfl rfl (one_of HT_.out (by kernel_rfl)) (by decide) (fun K hK => ?_)
            refine gS Try.func20 #[.agg #[.int .i64 ((rd_T23 t442 x16_2).f0), .int .i64 ((rd_T23 t442 x16_2).f1)]] (h := ?_)
            with_reducible refine (galloonref03_Valid.calls k2 ((rd_T23 t442 x16_2).f0) ((rd_T23 t442 x16_2).f1) true _ A37.out).mono ?_
            rintro e w60 ⟨rfl, hb⟩
            have HS2_ := cS hHeld.2.2.1 hb
            have HS3_ := cS hHeld.2.2.2.1 hb
            have HS4_ := cS hHeld.2.2.2.2.1 hb
            have HS5_ := cS hHeld.2.2.2.2.2.1 hb
            have HS6_ := cS hHeld.2.2.2.2.2.2.1 hb
            have HS7_ := cS hHeld.2.2.2.2.2.2.2.1 hb
            have HS8_ := cS hHeld.2.2.2.2.2.2.2.2.1 hb
            have HS9_ := cS hHeld.2.2.2.2.2.2.2.2.2.1 hb
            have HS10_ := cS hHeld.2.2.2.2.2.2.2.2.2.2.1 hb
            have HS11_ := cS hHeld.2.2.2.2.2.2.2.2.2.2.2.1 hb
            have HS12_ := cS hHeld.2.2.2.2.2.2.2.2.2.2.2.2.1 hb
            have HS13_ := cS hHeld.2.2.2.2.2.2.2.2.2.2.2.2.2.1 hb
            have HS14_ := cS hHeld.2.2.2.2.2.2.2.2.2.2.2.2.2.2.1 hb
            have HS15_ := cS hHeld.2.2.2.2.2.2.2.2.2.2.2.2.2.2.2 hb
            refine ⟨_, rfl, ?_⟩
            replace HO_7 := rB HO_7 hb
            replace HO_9 := rB HO_9 hb
            replace BK438 := kB BK438 hb
            replace BK458 := kB BK458 hb
            replace HB := bS HB hb
            (try clear hb)
            (try clear hb2)
            (try clear hk)
            (try clear hi)
            refine hK.out _ _ ⟨(blk_cell BK438.out 0).trans rfl, (blk_cell BK438.out 1).trans rfl, HS2_, HS3_, HS4_, HS5_, HS6_, HS7_, HS8_, HS9_, HS10_, HS11_, HS12_, HS13_, HS14_, HS15_⟩ (fun hHeld => ?_)
            clear hK K
            refine norm_ (a' := ?_) ?_ ?_
            rotate_left
            ·show Act.put _ (some 84) _ = _
             simp only [Act.put, List.setIfInBounds_toArray, List.set_cons_zero, List.set_cons_succ, i64_w, i32_w]
             rfl
            refine pk HT_ 66 63 5 85 (h := ?_)
            refine pk HT_ 66 127 6 86 (h := ?_)
            refine pk HT_ 66 255 7 87 (h := ?_)
            refine pk HT_ 66 511 8 88 (h := ?_)
            refine pk HT_ 66 0x3ff 9 89 (h := ?_)
            refine pk HT_ 66 0x7ff 10 90 (h := ?_)
            refine pk HT_ 66 0x17ff 12 92 (h := ?_)
            refine tk16 HT_ HW_ hHeld 66 0x1fff 11 91 (h := ?_)
            refine pk HT_ 66 0x3fff 13 93 (h := ?_)
            refine pk HT_ 66 0x7fff 14 94 (h := ?_)
            refine pk HT_ 66 0xffff 15 95 (h := ?_)
            refine pk HT_ 66 0x1ffff 16 96 (h := ?_)
            refine pk HT_ 66 0x3ffff 17 97 (h := ?_)
            refine pk HT_ 66 0x7ffff 18 98 (h := ?_)
            refine tk16 HT_ HW_ hHeld 66 0xfffff 19 99 (h := ?_)
            refine tk16 HT_ HW_ hHeld 66 0x1fffff 20 100 (h := ?_)
            refine one_ (i := 21) (N := some 101) (lb 66 0x3fffff) rfl rfl (one_of HT_.out (by kernel_rfl)) (by decide) (fun K hK => ?_)
            refine gS Try.func33 #[.agg #[.int .i64 ((rd_T23 t442 x16_2).f0), .int .i64 ((rd_T23 t442 x16_2).f1)], .agg #[.int .i64 t440, .int .i64 t441]] (h := ?_)
            with_reducible refine (galloonref03_Neighbors.calls ((rd_T23 t442 x16_2).f0) ((rd_T23 t442 x16_2).f1) t440 t441 true _ A42.out).mono ?_
            rintro e w61 ⟨rfl, hb⟩
            have HS2_ := cS hHeld.2.2.1 hb
            have HS3_ := cS hHeld.2.2.2.1 hb
            have HS4_ := cS hHeld.2.2.2.2.1 hb
            have HS5_ := cS hHeld.2.2.2.2.2.1 hb
            have HS6_ := cS hHeld.2.2.2.2.2.2.1 hb
            have HS7_ := cS hHeld.2.2.2.2.2.2.2.1 hb
            have HS8_ := cS hHeld.2.2.2.2.2.2.2.2.1 hb
            have HS9_ := cS hHeld.2.2.2.2.2.2.2.2.2.1 hb
            have HS10_ := cS hHeld.2.2.2.2.2.2.2.2.2.2.1 hb
            have HS11_ := cS hHeld.2.2.2.2.2.2.2.2.2.2.2.1 hb
            have HS12_ := cS hHeld.2.2.2.2.2.2.2.2.2.2.2.2.1 hb
            have HS13_ := cS hHeld.2.2.2.2.2.2.2.2.2.2.2.2.2.1 hb
            have HS14_ := cS hHeld.2.2.2.2.2.2.2.2.2.2.2.2.2.2.1 hb
            have HS15_ := cS hHeld.2.2.2.2.2.2.2.2.2.2.2.2.2.2.2 hb
            refine ⟨_, rfl, ?_⟩
            replace HO_7 := rB HO_7 hb
            replace HO_9 := rB HO_9 hb
            replace BK438 := kB BK438 hb
            replace BK458 := kB BK458 hb
            replace HB := bS HB hb
            (try clear hb)
            (try clear hb2)
            (try clear hk)
            (try clear hi)
            obtain ⟨Ao62, co62, eo62⟩ := Kd.R_slice HO_9.out
            (first | subst eo62 | (injection eo62 with f1_ f2_ f3_; have f4_ := f1_.symm; have f5_ := f3_.symm; clear f1_ f2_ f3_; subst f4_; subst f5_))
            refine hK.out _ _ ⟨(blk_cell BK438.out 0).trans rfl, (blk_cell BK438.out 1).trans rfl, HS2_, HS3_, HS4_, HS5_, HS6_, HS7_, HS8_, HS9_, HS10_, HS11_, HS12_, HS13_, HS14_, HS15_⟩ (fun hHeld => ?_)
            clear hK K
            refine norm_ (a' := ?_) ?_ ?_
            rotate_left
            ·show Act.put _ (some 101) _ = _
             simp only [Act.put, List.setIfInBounds_toArray, List.set_cons_zero, List.set_cons_succ, i64_w, i32_w]
             rfl
            refine pk HT_ 66 0x7fffff 22 102 (h := ?_)
            refine pk HT_ 66 0xffffff 23 103 (h := ?_)
            refine pu HT_ 66 0x1ffffff 24 104 (h := ?_)
            refine pu HT_ 66 0x3ffffff 25 105 (h := ?_)
            refine pu HT_ 66 0x7ffffff 26 106 (h := ?_)
            refine pu HT_ 66 0xfffffff 27 107 (h := ?_)
            refine pu HT_ 66 0x1fffffff 28 108 (h := ?_)
            refine pu HT_ 66 0x3fffffff 29 109 (h := ?_)
            refine pu HT_ 66 0x7fffffff 30 110 (h := ?_)
            refine pk HT_ 66 0xffffffff 31 111 (h := ?_)
            refine pk HT_ 66 0x1ffffffff 32 112 (h := ?_)
            refine pk HT_ 66 0x3ffffffff 33 113 (h := ?_)
            refine pk HT_ 66 0x7ffffffff 34 114 (h := ?_)
            refine pk HT_ 66 0xfffffffff 35 115 (h := ?_)
            refine pk HT_ 66 0x1fffffffff 36 116 (h := ?_)
            refine pk HT_ 66 0x3fffffffff 37 117 (h := ?_)
            refine pk HT_ 66 0x7fffffffff 38 118 (h := ?_)
            refine pk HT_ 66 0xffffffffff 39 119 (h := ?_)
            refine pk HT_ 66 0x1ffffffffff 40 120 (h := ?_)
            refine pk HT_ 66 0x5ffffffffff 42 122 (h := ?_)
            refine pk HT_ 66 0xdffffffffff 43 123 (h := ?_)
            refine pk HT_ 66 0x1dffffffffff 44 124 (h := ?_)
            refine tk16 HT_ HW_ hHeld 66 0x1fffffffffff 41 121 (h := ?_)
            refine tk16 HT_ HW_ hHeld 66 0x3fffffffffff 45 125 (h := ?_)
            refine one_ (i := 46) (N := some 126) (lb 66 0x7fffffffffff) rfl rfl (one_of HT_.out (by kernel_rfl)) (by decide) (fun K hK => ?_)
            refine gS Try.func27 #[.agg #[.int .i64 ((rd_T23 t442 x16_2).f0), .int .i64 ((rd_T23 t442 x16_2).f1)]] (h := ?_)
            with_reducible refine (galloonlaw03_rest.calls ((rd_T23 t442 x16_2).f0) ((rd_T23 t442 x16_2).f1) t466 t467 _ A47.out).mono ?_
            rintro e w63 ⟨rfl, hb⟩
            have HS2_ := cS hHeld.2.2.1 hb
            have HS3_ := cS hHeld.2.2.2.1 hb
            have HS4_ := cS hHeld.2.2.2.2.1 hb
            have HS5_ := cS hHeld.2.2.2.2.2.1 hb
            have HS6_ := cS hHeld.2.2.2.2.2.2.1 hb
            have HS7_ := cS hHeld.2.2.2.2.2.2.2.1 hb
            have HS8_ := cS hHeld.2.2.2.2.2.2.2.2.1 hb
            have HS9_ := cS hHeld.2.2.2.2.2.2.2.2.2.1 hb
            have HS10_ := cS hHeld.2.2.2.2.2.2.2.2.2.2.1 hb
            have HS11_ := cS hHeld.2.2.2.2.2.2.2.2.2.2.2.1 hb
            have HS12_ := cS hHeld.2.2.2.2.2.2.2.2.2.2.2.2.1 hb
            have HS13_ := cS hHeld.2.2.2.2.2.2.2.2.2.2.2.2.2.1 hb
            have HS14_ := cS hHeld.2.2.2.2.2.2.2.2.2.2.2.2.2.2.1 hb
            have HS15_ := cS hHeld.2.2.2.2.2.2.2.2.2.2.2.2.2.2.2 hb
            refine ⟨_, rfl, ?_⟩
            replace HO_7 := rB HO_7 hb
            replace HO_9 := rB HO_9 hb
            replace BK438 := kB BK438 hb
            replace BK458 := kB BK458 hb
            replace HB := bS HB hb
            (try clear hb)
            (try clear hb2)
            (try clear hk)
            (try clear hi)
            refine hK.out _ _ ⟨(blk_cell BK438.out 0).trans rfl, (blk_cell BK438.out 1).trans rfl, HS2_, HS3_, HS4_, HS5_, HS6_, HS7_, HS8_, HS9_, HS10_, HS11_, HS12_, HS13_, HS14_, HS15_⟩ (fun hHeld => ?_)
            clear hK K
            refine norm_ (a' := ?_) ?_ ?_
            rotate_left
            ·show Act.put _ (some 126) _ = _
             simp only [Act.put, List.setIfInBounds_toArray, List.set_cons_zero, List.set_cons_succ, i64_w, i32_w]
             rfl
            refine pk HT_ 66 0xffffffffffff 47 127 (h := ?_)
            refine pk HT_ 66 0x1ffffffffffff 48 128 (h := ?_)
            refine pk HT_ 66 0x3ffffffffffff 49 129 (h := ?_)
            refine pk HT_ 66 0x7ffffffffffff 50 130 (h := ?_)
            refine pk HT_ 66 0xfffffffffffff 51 131 (h := ?_)
            refine pk HT_ 66 0x1fffffffffffff 52 132 (h := ?_)
            refine pk HT_ 66 0x3fffffffffffff 53 133 (h := ?_)
            refine pk HT_ 66 0x7fffffffffffff 54 134 (h := ?_)
            refine pk HT_ 66 0xffffffffffffff 55 135 (h := ?_)
            refine pk HT_ 66 0x1ffffffffffffff 56 136 (h := ?_)
            refine pk HT_ 66 0x5ffffffffffffff 58 138 (h := ?_)
            refine pk HT_ 66 0xdffffffffffffff 59 139 (h := ?_)
            refine pk HT_ 66 0x1dffffffffffffff 60 140 (h := ?_)
            refine tk16 HT_ HW_ hHeld 66 0x1fffffffffffffff 57 137 (h := ?_)
            refine tk16 HT_ HW_ hHeld 66 0x3fffffffffffffff 61 141 (h := ?_)
            refine one_ (i := 62) (N := some 142) (lb 66 0x7fffffffffffffff) rfl rfl (one_of HT_.out (by kernel_rfl)) (by decide) (fun K hK => ?_)
            refine goes_ Try.func29 (by kernel_rfl) rfl #[.agg #[.int .i64 ((rd_T23 t442 (ji55)).f0), .int .i64 ((rd_T23 t442 (ji55)).f1)], .agg #[.int .i64 ((rd_T23 t442 x16_2).f0), .int .i64 ((rd_T23 t442 x16_2).f1)]] (by rfl) rfl rfl (by (try simp only [List.map_toArray, List.map_cons, List.map_nil]); first | done | (simp only [hji55]; rfl) | rfl | (simp only [List.length_drop, List.length_take]; rfl)) ?_
            with_reducible refine (galloonref03_Less.calls ((rd_T23 t442 (ji55)).f0) ((rd_T23 t442 (ji55)).f1) ((rd_T23 t442 x16_2).f0) ((rd_T23 t442 x16_2).f1) t470 _ A58.out).mono ?_
            rintro e w64 ⟨rfl, hb⟩
            have HS2_ := cS hHeld.2.2.1 hb
            have HS3_ := cS hHeld.2.2.2.1 hb
            have HS4_ := cS hHeld.2.2.2.2.1 hb
            have HS5_ := cS hHeld.2.2.2.2.2.1 hb
            have HS6_ := cS hHeld.2.2.2.2.2.2.1 hb
            have HS7_ := cS hHeld.2.2.2.2.2.2.2.1 hb
            have HS8_ := cS hHeld.2.2.2.2.2.2.2.2.1 hb
            have HS9_ := cS hHeld.2.2.2.2.2.2.2.2.2.1 hb
            have HS10_ := cS hHeld.2.2.2.2.2.2.2.2.2.2.1 hb
            have HS11_ := cS hHeld.2.2.2.2.2.2.2.2.2.2.2.1 hb
            have HS12_ := cS hHeld.2.2.2.2.2.2.2.2.2.2.2.2.1 hb
            have HS13_ := cS hHeld.2.2.2.2.2.2.2.2.2.2.2.2.2.1 hb
            have HS14_ := cS hHeld.2.2.2.2.2.2.2.2.2.2.2.2.2.2.1 hb
            have HS15_ := cS hHeld.2.2.2.2.2.2.2.2.2.2.2.2.2.2.2 hb
            refine ⟨_, rfl, ?_⟩
            replace HO_7 := rB HO_7 hb
            replace HO_9 := rB HO_9 hb
            replace BK438 := kB BK438 hb
            replace BK458 := kB BK458 hb
            replace HB := bS HB hb
            (try clear hb)
            (try clear hb2)
            (try clear hk)
            (try clear hi)
            refine hK.out _ _ ⟨(blk_cell BK438.out 0).trans rfl, (blk_cell BK438.out 1).trans rfl, HS2_, HS3_, HS4_, HS5_, HS6_, HS7_, HS8_, HS9_, HS10_, HS11_, HS12_, HS13_, HS14_, HS15_⟩ (fun hHeld => ?_)
            clear hK K
            refine norm_ (a' := ?_) ?_ ?_
            rotate_left
            ·show Act.put _ (some 142) _ = _
             simp only [Act.put, List.setIfInBounds_toArray, List.set_cons_zero, List.set_cons_succ, i64_w, i32_w]
             rfl
            refine pk HT_ 66 0xffffffffffffffff 63 143 (h := ?_)
            refine pk HT_ 66 0x1ffffffffffffffff 64 144 (h := ?_)
            refine pk HT_ 66 0x3ffffffffffffffff 65 145 (h := ?_)
            refine done_ (done_of HT_.out (by kernel_rfl)) ?_
            try go_wp2
            go_meet
            case rel => exact ⟨_, (!t470), (by first | rfl | (simp; done) | (simp [*]; done)), H', ⟨by have := HJ9.out; have := HK2.out; first | omega | exact Nat.le_refl _⟩, ⟨by (with_reducible repeat (first | apply Kd.R_alloc | apply Kd.R_drewN | apply Kd.R_drew)); exact HO_7.out⟩, ⟨by (with_reducible repeat (first | apply Kd.R_alloc | apply Kd.R_drewN | apply Kd.R_drew)); exact HO_9.out⟩, kA BK438, kA BK458, bA HB⟩
           ·rw [if_neg c54] at H
            have c54b0 : decide (0 < x16_2) = false := decide_eq_false c54
            clear c54
            have H' := Aside0.mk H
            clear H
            try go_wp2
            replace HO_7 := Aside0.mk (Kd.R_drew HO_7.out)
            replace HO_9 := Aside0.mk (Kd.R_drew HO_9.out)
            replace BK438 := Aside0.mk (blk_drew BK438.out)
            replace BK458 := Aside0.mk (blk_drew BK458.out)
            replace HB := Aside0.mk (below_drew1 HB.out)
            have p459 : 0 ≤ (x16_2 : Int) := oD
            have q459 : x16_2 < (t442.length : Int) := oD
            obtain ⟨ad459, e459, hx459_0, hx459_1⟩ := at_T23 (Kd.R_reads' HO_7.out).2.2 x16_2 p459 q459
            cases e459
            replace p459 := eq_true p459
            replace q459 := eq_true q459
            have p461 : 0 ≤ (x16_2 : Int) := oD
            have q461 : x16_2 < (t442.length : Int) := oD
            obtain ⟨ad461, e461, hx461_0, hx461_1⟩ := at_T23 (Kd.R_reads' HO_7.out).2.2 x16_2 p461 q461
            obtain rfl : ad459 = ad461 := (by injection e461)
            replace p461 := eq_true p461
            replace q461 := eq_true q461
            have p462 : 0 ≤ (x16_2 : Int) := oD
            have q462 : x16_2 < (t442.length : Int) := oD
            obtain ⟨ad462, e462, hx462_0, hx462_1⟩ := at_T23 (Kd.R_reads' HO_7.out).2.2 x16_2 p462 q462
            obtain rfl : ad459 = ad462 := (by injection e462)
            replace p462 := eq_true p462
            replace q462 := eq_true q462
            obtain ⟨Ao9_, co9_, eo9_⟩ := Kd.R_slice HO_9.out
            subst eo9_
            have p464 : 0 ≤ ((ji44) : Int) := oD
            have q464 : (ji44) < (t448.length : Int) := oD
            obtain ⟨ad464, e464, hx464_0, hx464_1⟩ := at_T23 (Kd.R_reads' HO_9.out).2.2 (ji44) p464 q464
            cases e464
            replace p464 := eq_true p464
            replace q464 := eq_true q464
            have p465 : 0 ≤ (x16_2 : Int) := oD
            have q465 : x16_2 < (t442.length : Int) := oD
            obtain ⟨ad465, e465, hx465_0, hx465_1⟩ := at_T23 (Kd.R_reads' HO_7.out).2.2 x16_2 p465 q465
            obtain rfl : ad459 = ad465 := (by injection e465)
            replace p465 := eq_true p465
            replace q465 := eq_true q465
            refine start_ (n := 66) (S := fun w' => w'.cell? ⟨gb438, 0, none⟩ = some (.int .i64 t440) ∧ w'.cell? ⟨gb438, 1, none⟩ = some (.int .i64 t441) ∧ w'.cell? (ad459.add ((x16_2).toNat * 2)) = some (.int .i64 ((rd_T23 t442 x16_2).f0)) ∧ w'.cell? ⟨(ad459.add ((x16_2).toNat * 2)).block, (ad459.add ((x16_2).toNat * 2)).off + 1, none⟩ = some (.int .i64 ((rd_T23 t442 x16_2).f1)) ∧ w'.cell? (ad459.add ((x16_2).toNat * 2)) = some (.int .i64 ((rd_T23 t442 x16_2).f0)) ∧ w'.cell? ⟨(ad459.add ((x16_2).toNat * 2)).block, (ad459.add ((x16_2).toNat * 2)).off + 1, none⟩ = some (.int .i64 ((rd_T23 t442 x16_2).f1)) ∧ w'.cell? (ad459.add ((x16_2).toNat * 2)) = some (.int .i64 ((rd_T23 t442 x16_2).f0)) ∧ w'.cell? ⟨(ad459.add ((x16_2).toNat * 2)).block, (ad459.add ((x16_2).toNat * 2)).off + 1, none⟩ = some (.int .i64 ((rd_T23 t442 x16_2).f1)) ∧ w'.cell? (ad464.add (((ji44)).toNat * 2)) = some (.int .i64 ((rd_T23 t448 (ji44)).f0)) ∧ w'.cell? ⟨(ad464.add (((ji44)).toNat * 2)).block, (ad464.add (((ji44)).toNat * 2)).off + 1, none⟩ = some (.int .i64 ((rd_T23 t448 (ji44)).f1)) ∧ w'.cell? (ad459.add ((x16_2).toNat * 2)) = some (.int .i64 ((rd_T23 t442 x16_2).f0)) ∧ w'.cell? ⟨(ad459.add ((x16_2).toNat * 2)).block, (ad459.add ((x16_2).toNat * 2)).off + 1, none⟩ = some (.int .i64 ((rd_T23 t442 x16_2).f1))) (ds := []) (lb 66 0) (by kernel_rfl) rfl (by kernel_rfl) ⟨(blk_cell BK438.out 0).trans rfl, (blk_cell BK438.out 1).trans rfl, hx459_0, hx459_1, hx461_0, hx461_1, hx462_0, hx462_1, hx464_0, hx464_1, hx465_0, hx465_1⟩ (fun hHeld => ?_); refine with_tabW galloonlaw03_YardTouched.tab13 galloonlaw03_YardTouched.bits13 (fun HT_ HW_ => ?_)
            generalize wr.drew = w65 at HO_7 HO_9 BK438 BK458 HB hx459_0 hx459_1 hx461_0 hx461_1 hx462_0 hx462_1 hx464_0 hx464_1 hx465_0 hx465_1 hHeld ⊢
            refine pk HT_ 66 1 0 80 (h := ?_)
            refine pk HT_ 66 3 1 81 (h := ?_)
            refine pk HT_ 66 7 2 82 (h := ?_)
            refine tk12 HT_ HW_ hHeld 66 15 3 83 (h := ?_)
            refine one_ (i := 4) (N := some 84) (lb 66 31) rfl rfl (one_of HT_.out (by kernel_rfl)) (by decide) (fun K hK => ?_)
            refine gS Try.func20 #[.agg #[.int .i64 ((rd_T23 t442 x16_2).f0), .int .i64 ((rd_T23 t442 x16_2).f1)]] (h := ?_)
            with_reducible refine (galloonref03_Valid.calls k2 ((rd_T23 t442 x16_2).f0) ((rd_T23 t442 x16_2).f1) true _ A37.out).mono ?_
            rintro e w66 ⟨rfl, hb⟩
            have HS2_ := cS hHeld.2.2.1 hb
            have HS3_ := cS hHeld.2.2.2.1 hb
            have HS4_ := cS hHeld.2.2.2.2.1 hb
            have HS5_ := cS hHeld.2.2.2.2.2.1 hb
            have HS6_ := cS hHeld.2.2.2.2.2.2.1 hb
            have HS7_ := cS hHeld.2.2.2.2.2.2.2.1 hb
            have HS8_ := cS hHeld.2.2.2.2.2.2.2.2.1 hb
            have HS9_ := cS hHeld.2.2.2.2.2.2.2.2.2.1 hb
            have HS10_ := cS hHeld.2.2.2.2.2.2.2.2.2.2.1 hb
            have HS11_ := cS hHeld.2.2.2.2.2.2.2.2.2.2.2 hb
            refine ⟨_, rfl, ?_⟩
            replace HO_7 := rB HO_7 hb
            replace HO_9 := rB HO_9 hb
            replace BK438 := kB BK438 hb
            replace BK458 := kB BK458 hb
            replace HB := bS HB hb
            (try clear hb)
            (try clear hb2)
            (try clear hk)
            (try clear hi)
            refine hK.out _ _ ⟨(blk_cell BK438.out 0).trans rfl, (blk_cell BK438.out 1).trans rfl, HS2_, HS3_, HS4_, HS5_, HS6_, HS7_, HS8_, HS9_, HS10_, HS11_⟩ (fun hHeld => ?_)
            clear hK K
            refine norm_ (a' := ?_) ?_ ?_
            rotate_left
            ·show Act.put _ (some 84) _ = _
             simp only [Act.put, List.setIfInBounds_toArray, List.set_cons_zero, List.set_cons_succ, i64_w, i32_w]
             rfl
            refine pk HT_ 66 63 5 85 (h := ?_)
            refine pk HT_ 66 127 6 86 (h := ?_)
            refine pk HT_ 66 255 7 87 (h := ?_)
            refine pk HT_ 66 511 8 88 (h := ?_)
            refine pk HT_ 66 0x3ff 9 89 (h := ?_)
            refine pk HT_ 66 0x7ff 10 90 (h := ?_)
            refine pk HT_ 66 0x17ff 12 92 (h := ?_)
            refine tk12 HT_ HW_ hHeld 66 0x1fff 11 91 (h := ?_)
            refine pk HT_ 66 0x3fff 13 93 (h := ?_)
            refine pk HT_ 66 0x7fff 14 94 (h := ?_)
            refine pk HT_ 66 0xffff 15 95 (h := ?_)
            refine pk HT_ 66 0x1ffff 16 96 (h := ?_)
            refine pk HT_ 66 0x3ffff 17 97 (h := ?_)
            refine pk HT_ 66 0x7ffff 18 98 (h := ?_)
            refine tk12 HT_ HW_ hHeld 66 0xfffff 19 99 (h := ?_)
            refine tk12 HT_ HW_ hHeld 66 0x1fffff 20 100 (h := ?_)
            refine one_ (i := 21) (N := some 101) (lb 66 0x3fffff) rfl rfl (one_of HT_.out (by kernel_rfl)) (by decide) (fun K hK => ?_)
            refine gS Try.func33 #[.agg #[.int .i64 ((rd_T23 t442 x16_2).f0), .int .i64 ((rd_T23 t442 x16_2).f1)], .agg #[.int .i64 t440, .int .i64 t441]] (h := ?_)
            with_reducible refine (galloonref03_Neighbors.calls ((rd_T23 t442 x16_2).f0) ((rd_T23 t442 x16_2).f1) t440 t441 true _ A42.out).mono ?_
            rintro e w67 ⟨rfl, hb⟩
            have HS2_ := cS hHeld.2.2.1 hb
            have HS3_ := cS hHeld.2.2.2.1 hb
            have HS4_ := cS hHeld.2.2.2.2.1 hb
            have HS5_ := cS hHeld.2.2.2.2.2.1 hb
            have HS6_ := cS hHeld.2.2.2.2.2.2.1 hb
            have HS7_ := cS hHeld.2.2.2.2.2.2.2.1 hb
            have HS8_ := cS hHeld.2.2.2.2.2.2.2.2.1 hb
            have HS9_ := cS hHeld.2.2.2.2.2.2.2.2.2.1 hb
            have HS10_ := cS hHeld.2.2.2.2.2.2.2.2.2.2.1 hb
            have HS11_ := cS hHeld.2.2.2.2.2.2.2.2.2.2.2 hb
            refine ⟨_, rfl, ?_⟩
            replace HO_7 := rB HO_7 hb
            replace HO_9 := rB HO_9 hb
            replace BK438 := kB BK438 hb
            replace BK458 := kB BK458 hb
            replace HB := bS HB hb
            (try clear hb)
            (try clear hb2)
            (try clear hk)
            (try clear hi)
            obtain ⟨Ao68, co68, eo68⟩ := Kd.R_slice HO_9.out
            (first | subst eo68 | (injection eo68 with f1_ f2_ f3_; have f4_ := f1_.symm; have f5_ := f3_.symm; clear f1_ f2_ f3_; subst f4_; subst f5_))
            refine hK.out _ _ ⟨(blk_cell BK438.out 0).trans rfl, (blk_cell BK438.out 1).trans rfl, HS2_, HS3_, HS4_, HS5_, HS6_, HS7_, HS8_, HS9_, HS10_, HS11_⟩ (fun hHeld => ?_)
            clear hK K
            refine norm_ (a' := ?_) ?_ ?_
            rotate_left
            ·show Act.put _ (some 101) _ = _
             simp only [Act.put, List.setIfInBounds_toArray, List.set_cons_zero, List.set_cons_succ, i64_w, i32_w]
             rfl
            refine pk HT_ 66 0x7fffff 22 102 (h := ?_)
            refine pk HT_ 66 0xffffff 23 103 (h := ?_)
            refine pu HT_ 66 0x1ffffff 24 104 (h := ?_)
            refine pu HT_ 66 0x3ffffff 25 105 (h := ?_)
            refine pu HT_ 66 0x7ffffff 26 106 (h := ?_)
            refine pu HT_ 66 0xfffffff 27 107 (h := ?_)
            refine pu HT_ 66 0x1fffffff 28 108 (h := ?_)
            refine pu HT_ 66 0x3fffffff 29 109 (h := ?_)
            refine pu HT_ 66 0x7fffffff 30 110 (h := ?_)
            refine pk HT_ 66 0xffffffff 31 111 (h := ?_)
            refine pk HT_ 66 0x1ffffffff 32 112 (h := ?_)
            refine pk HT_ 66 0x3ffffffff 33 113 (h := ?_)
            refine pk HT_ 66 0x7ffffffff 34 114 (h := ?_)
            refine pk HT_ 66 0xfffffffff 35 115 (h := ?_)
            refine pk HT_ 66 0x1fffffffff 36 116 (h := ?_)
            refine pk HT_ 66 0x3fffffffff 37 117 (h := ?_)
            refine pk HT_ 66 0x7fffffffff 38 118 (h := ?_)
            refine pk HT_ 66 0xffffffffff 39 119 (h := ?_)
            refine pk HT_ 66 0x1ffffffffff 40 120 (h := ?_)
            refine pk HT_ 66 0x5ffffffffff 42 122 (h := ?_)
            refine pk HT_ 66 0xdffffffffff 43 123 (h := ?_)
            refine pk HT_ 66 0x1dffffffffff 44 124 (h := ?_)
            refine tk12 HT_ HW_ hHeld 66 0x1fffffffffff 41 121 (h := ?_)
            refine tk12 HT_ HW_ hHeld 66 0x3fffffffffff 45 125 (h := ?_)
            refine one_ (i := 46) (N := some 126) (lb 66 0x7fffffffffff) rfl rfl (one_of HT_.out (by kernel_rfl)) (by decide) (fun K hK => ?_)
            refine gS Try.func27 #[.agg #[.int .i64 ((rd_T23 t442 x16_2).f0), .int .i64 ((rd_T23 t442 x16_2).f1)]] (h := ?_)
            with_reducible refine (galloonlaw03_rest.calls ((rd_T23 t442 x16_2).f0) ((rd_T23 t442 x16_2).f1) t466 t467 _ A47.out).mono ?_
            rintro e w69 ⟨rfl, hb⟩
            have HS2_ := cS hHeld.2.2.1 hb
            have HS3_ := cS hHeld.2.2.2.1 hb
            have HS4_ := cS hHeld.2.2.2.2.1 hb
            have HS5_ := cS hHeld.2.2.2.2.2.1 hb
            have HS6_ := cS hHeld.2.2.2.2.2.2.1 hb
            have HS7_ := cS hHeld.2.2.2.2.2.2.2.1 hb
            have HS8_ := cS hHeld.2.2.2.2.2.2.2.2.1 hb
            have HS9_ := cS hHeld.2.2.2.2.2.2.2.2.2.1 hb
            have HS10_ := cS hHeld.2.2.2.2.2.2.2.2.2.2.1 hb
            have HS11_ := cS hHeld.2.2.2.2.2.2.2.2.2.2.2 hb
            refine ⟨_, rfl, ?_⟩
            replace HO_7 := rB HO_7 hb
            replace HO_9 := rB HO_9 hb
            replace BK438 := kB BK438 hb
            replace BK458 := kB BK458 hb
            replace HB := bS HB hb
            (try clear hb)
            (try clear hb2)
            (try clear hk)
            (try clear hi)
            refine hK.out _ _ ⟨(blk_cell BK438.out 0).trans rfl, (blk_cell BK438.out 1).trans rfl, HS2_, HS3_, HS4_, HS5_, HS6_, HS7_, HS8_, HS9_, HS10_, HS11_⟩ (fun hHeld => ?_)
            clear hK K
            refine norm_ (a' := ?_) ?_ ?_
            rotate_left
            ·show Act.put _ (some 126) _ = _
             simp only [Act.put, List.setIfInBounds_toArray, List.set_cons_zero, List.set_cons_succ, i64_w, i32_w]
             rfl
            refine pk HT_ 66 0xffffffffffff 47 127 (h := ?_)
            refine pk HT_ 66 0x1ffffffffffff 48 128 (h := ?_)
            refine pk HT_ 66 0x3ffffffffffff 49 129 (h := ?_)
            refine pk HT_ 66 0x7ffffffffffff 50 130 (h := ?_)
            refine pk HT_ 66 0xfffffffffffff 51 131 (h := ?_)
            refine pk HT_ 66 0x1fffffffffffff 52 132 (h := ?_)
            refine pu HT_ 66 0x3fffffffffffff 53 133 (h := ?_)
            refine pu HT_ 66 0x7fffffffffffff 54 134 (h := ?_)
            refine pu HT_ 66 0xffffffffffffff 55 135 (h := ?_)
            refine pu HT_ 66 0x1ffffffffffffff 56 136 (h := ?_)
            refine pu HT_ 66 0x3ffffffffffffff 57 137 (h := ?_)
            refine pu HT_ 66 0x7ffffffffffffff 58 138 (h := ?_)
            refine pu HT_ 66 0xfffffffffffffff 59 139 (h := ?_)
            refine pu HT_ 66 0x1fffffffffffffff 60 140 (h := ?_)
            refine pu HT_ 66 0x3fffffffffffffff 61 141 (h := ?_)
            refine pu HT_ 66 0x7fffffffffffffff 62 142 (h := ?_)
            refine pu HT_ 66 0xffffffffffffffff 63 143 (h := ?_)
            refine pk HT_ 66 0x1ffffffffffffffff 64 144 (h := ?_)
            refine pk HT_ 66 0x3ffffffffffffffff 65 145 (h := ?_)
            refine done_ (done_of HT_.out (by kernel_rfl)) ?_
            try go_wp2
            go_meet
            case rel => exact ⟨_, (false), (by first | rfl | (simp; done) | (simp [*]; done)), H', ⟨by have := HJ9.out; have := HK2.out; first | omega | exact Nat.le_refl _⟩, ⟨by (with_reducible repeat (first | apply Kd.R_alloc | apply Kd.R_drewN | apply Kd.R_drew)); exact HO_7.out⟩, ⟨by (with_reducible repeat (first | apply Kd.R_alloc | apply Kd.R_drewN | apply Kd.R_drew)); exact HO_9.out⟩, kA BK438, kA BK458, bA HB⟩
         ·replace c43 := Bool.eq_false_iff.mpr c43
          subst c43
          have H1 : ((galloonref03_Neighbors.f t440 t441 ((rd_T23 t442 x16_2).f0) ((rd_T23 t442 x16_2).f1)).bind fun t472 => (if t472 = true then (if 0 ≤ (wrap64 ((wrap64 ((t448.length : Int) - 1)) - x16_2)) then (if (wrap64 ((wrap64 ((t448.length : Int) - 1)) - x16_2)) < (t448.length : Int) then ((galloonlaw03_rest.f ((rd_T23 t442 x16_2).f0) ((rd_T23 t442 x16_2).f1)).bind fun bt475 => (if (!(((rd_T23 t448 (wrap64 ((wrap64 ((t448.length : Int) - 1)) - x16_2))).f0) == bt475.1) || (!(((rd_T23 t448 (wrap64 ((wrap64 ((t448.length : Int) - 1)) - x16_2))).f1) == bt475.2))) = true then (galloonlaw03_YardTouched.j2 k2 (wrap64 (1 + t439)) t442 t448 t457 x15_2 x16_2 true t440 t441 t455 t456) else (if x16_2 > 0 then (if 0 ≤ (wrap64 (x16_2 - 1)) then (if (wrap64 (x16_2 - 1)) < (t442.length : Int) then ((galloonref03_Less.f ((rd_T23 t442 (wrap64 (x16_2 - 1))).f0) ((rd_T23 t442 (wrap64 (x16_2 - 1))).f1) ((rd_T23 t442 x16_2).f0) ((rd_T23 t442 x16_2).f1)).bind fun t479 => (galloonlaw03_YardTouched.j2 k2 (wrap64 (1 + t439)) t442 t448 t457 x15_2 x16_2 (!t479) t440 t441 t455 t456)) else (none)) else (none)) else (galloonlaw03_YardTouched.j2 k2 (wrap64 (1 + t439)) t442 t448 t457 x15_2 x16_2 false t440 t441 t455 t456)))) else (none)) else (none)) else (galloonlaw03_YardTouched.j2 k2 (wrap64 (1 + t439)) t442 t448 t457 x15_2 x16_2 true t440 t441 t455 t456))) = some r := by rw [if_neg (show ¬ (false = true) by decide)] at H; exact H
          clear H
          have H := H1
          clear H1
          replace H := Option.bind_eq_some_iff.mp H
          obtain ⟨t472, A700, H⟩ := H
          replace H : (if t472 = true then (if 0 ≤ (wrap64 ((wrap64 ((t448.length : Int) - 1)) - x16_2)) then (if (wrap64 ((wrap64 ((t448.length : Int) - 1)) - x16_2)) < (t448.length : Int) then ((galloonlaw03_rest.f ((rd_T23 t442 x16_2).f0) ((rd_T23 t442 x16_2).f1)).bind fun bt475 => (if (!(((rd_T23 t448 (wrap64 ((wrap64 ((t448.length : Int) - 1)) - x16_2))).f0) == bt475.1) || (!(((rd_T23 t448 (wrap64 ((wrap64 ((t448.length : Int) - 1)) - x16_2))).f1) == bt475.2))) = true then (galloonlaw03_YardTouched.j2 k2 (wrap64 (1 + t439)) t442 t448 t457 x15_2 x16_2 true t440 t441 t455 t456) else (if x16_2 > 0 then (if 0 ≤ (wrap64 (x16_2 - 1)) then (if (wrap64 (x16_2 - 1)) < (t442.length : Int) then ((galloonref03_Less.f ((rd_T23 t442 (wrap64 (x16_2 - 1))).f0) ((rd_T23 t442 (wrap64 (x16_2 - 1))).f1) ((rd_T23 t442 x16_2).f0) ((rd_T23 t442 x16_2).f1)).bind fun t479 => (galloonlaw03_YardTouched.j2 k2 (wrap64 (1 + t439)) t442 t448 t457 x15_2 x16_2 (!t479) t440 t441 t455 t456)) else (none)) else (none)) else (galloonlaw03_YardTouched.j2 k2 (wrap64 (1 + t439)) t442 t448 t457 x15_2 x16_2 false t440 t441 t455 t456)))) else (none)) else (none)) else (galloonlaw03_YardTouched.j2 k2 (wrap64 (1 + t439)) t442 t448 t457 x15_2 x16_2 true t440 t441 t455 t456)) = some r := H
          have A70 := Aside0.mk A700
          clear A700
          by_cases c71 : t472 = true
          case neg =>
           replace c71 := Bool.eq_false_iff.mpr c71
           subst c71
           have H1 : (galloonlaw03_YardTouched.j2 k2 (wrap64 (1 + t439)) t442 t448 t457 x15_2 x16_2 true t440 t441 t455 t456) = some r := by rw [if_neg (show ¬ (false = true) by decide)] at H; exact H
           clear H
           have H := H1
           clear H1
           first | (exact absurd ((galloonlaw03_YardTouched.j0_bad H).symm.trans hr.out) (by decide)) | (exact absurd ((galloonlaw03_YardTouched.j2_bad H).symm.trans hr.out) (by decide))
          subst c71
          have H1 : (if 0 ≤ (wrap64 ((wrap64 ((t448.length : Int) - 1)) - x16_2)) then (if (wrap64 ((wrap64 ((t448.length : Int) - 1)) - x16_2)) < (t448.length : Int) then ((galloonlaw03_rest.f ((rd_T23 t442 x16_2).f0) ((rd_T23 t442 x16_2).f1)).bind fun bt475 => (if (!(((rd_T23 t448 (wrap64 ((wrap64 ((t448.length : Int) - 1)) - x16_2))).f0) == bt475.1) || (!(((rd_T23 t448 (wrap64 ((wrap64 ((t448.length : Int) - 1)) - x16_2))).f1) == bt475.2))) = true then (galloonlaw03_YardTouched.j2 k2 (wrap64 (1 + t439)) t442 t448 t457 x15_2 x16_2 true t440 t441 t455 t456) else (if x16_2 > 0 then (if 0 ≤ (wrap64 (x16_2 - 1)) then (if (wrap64 (x16_2 - 1)) < (t442.length : Int) then ((galloonref03_Less.f ((rd_T23 t442 (wrap64 (x16_2 - 1))).f0) ((rd_T23 t442 (wrap64 (x16_2 - 1))).f1) ((rd_T23 t442 x16_2).f0) ((rd_T23 t442 x16_2).f1)).bind fun t479 => (galloonlaw03_YardTouched.j2 k2 (wrap64 (1 + t439)) t442 t448 t457 x15_2 x16_2 (!t479) t440 t441 t455 t456)) else (none)) else (none)) else (galloonlaw03_YardTouched.j2 k2 (wrap64 (1 + t439)) t442 t448 t457 x15_2 x16_2 false t440 t441 t455 t456)))) else (none)) else (none)) = some r := by rw [if_pos rfl] at H; exact H
          clear H
          have H := H1
          clear H1
          obtain ⟨ji72, hji72⟩ : ∃ j_ : Int, (wrap64 ((wrap64 ((t448.length : Int) - 1)) - x16_2)) = j_ := ⟨_, rfl⟩
          replace H : (if 0 ≤ (ji72) then (if (ji72) < (t448.length : Int) then ((galloonlaw03_rest.f ((rd_T23 t442 x16_2).f0) ((rd_T23 t442 x16_2).f1)).bind fun bt475 => (if (!(((rd_T23 t448 (ji72)).f0) == bt475.1) || (!(((rd_T23 t448 (ji72)).f1) == bt475.2))) = true then (galloonlaw03_YardTouched.j2 k2 (wrap64 (1 + t439)) t442 t448 t457 x15_2 x16_2 true t440 t441 t455 t456) else (if x16_2 > 0 then (if 0 ≤ (wrap64 (x16_2 - 1)) then (if (wrap64 (x16_2 - 1)) < (t442.length : Int) then ((galloonref03_Less.f ((rd_T23 t442 (wrap64 (x16_2 - 1))).f0) ((rd_T23 t442 (wrap64 (x16_2 - 1))).f1) ((rd_T23 t442 x16_2).f0) ((rd_T23 t442 x16_2).f1)).bind fun t479 => (galloonlaw03_YardTouched.j2 k2 (wrap64 (1 + t439)) t442 t448 t457 x15_2 x16_2 (!t479) t440 t441 t455 t456)) else (none)) else (none)) else (galloonlaw03_YardTouched.j2 k2 (wrap64 (1 + t439)) t442 t448 t457 x15_2 x16_2 false t440 t441 t455 t456)))) else (none)) else (none)) = some r := by first | (rw [hji72] at H; exact H) | (simp only [hji72] at H ⊢; exact H)
          (try rw [hji72] at A37)
          (try rw [hji72] at A42)
          (try rw [hji72] at A70)
          have hji72w : (IntKind.i64.wrap ((wrap64 ((t448.length : Int) - 1)) - x16_2)) = ji72 := (i64_w _).trans hji72
          by_cases c73 : 0 ≤ (ji72)
          case neg =>
           rw [if_neg c73] at H
           exact absurd H (by simp)
          rw [if_pos c73] at H
          have c73b0 : decide (0 ≤ (ji72)) = true := decide_eq_true c73
          clear c73
          by_cases c74 : (ji72) < (t448.length : Int)
          case neg =>
           rw [if_neg c74] at H
           exact absurd H (by simp)
          rw [if_pos c74] at H
          have c74b0 : decide ((ji72) < (t448.length : Int)) = true := decide_eq_true c74
          clear c74
          replace H := Option.bind_eq_some_iff.mp H
          obtain ⟨⟨t475, t476⟩, A750, H⟩ := H
          replace H : (if (!(((rd_T23 t448 (ji72)).f0) == t475) || (!(((rd_T23 t448 (ji72)).f1) == t476))) = true then (galloonlaw03_YardTouched.j2 k2 (wrap64 (1 + t439)) t442 t448 t457 x15_2 x16_2 true t440 t441 t455 t456) else (if x16_2 > 0 then (if 0 ≤ (wrap64 (x16_2 - 1)) then (if (wrap64 (x16_2 - 1)) < (t442.length : Int) then ((galloonref03_Less.f ((rd_T23 t442 (wrap64 (x16_2 - 1))).f0) ((rd_T23 t442 (wrap64 (x16_2 - 1))).f1) ((rd_T23 t442 x16_2).f0) ((rd_T23 t442 x16_2).f1)).bind fun t479 => (galloonlaw03_YardTouched.j2 k2 (wrap64 (1 + t439)) t442 t448 t457 x15_2 x16_2 (!t479) t440 t441 t455 t456)) else (none)) else (none)) else (galloonlaw03_YardTouched.j2 k2 (wrap64 (1 + t439)) t442 t448 t457 x15_2 x16_2 false t440 t441 t455 t456))) = some r := H
          have A75 := Aside0.mk A750
          clear A750
          by_cases c76 : (!(((rd_T23 t448 (ji72)).f0) == t475) || (!(((rd_T23 t448 (ji72)).f1) == t476))) = true
          ·rw [if_pos c76] at H
           have c76b0 : (!(((rd_T23 t448 (ji72)).f0) == t475) || (!(((rd_T23 t448 (ji72)).f1) == t476))) = true := c76
           clear c76
           first | (exact absurd ((galloonlaw03_YardTouched.j0_bad H).symm.trans hr.out) (by decide)) | (exact absurd ((galloonlaw03_YardTouched.j2_bad H).symm.trans hr.out) (by decide))
          ·rw [if_neg c76] at H
           have c76b0 : (!(((rd_T23 t448 (ji72)).f0) == t475) || (!(((rd_T23 t448 (ji72)).f1) == t476))) = false := by simpa using c76
           clear c76
           by_cases c83 : x16_2 > 0
           ·rw [if_pos c83] at H
            have c83b0 : decide (0 < x16_2) = true := decide_eq_true c83
            clear c83
            obtain ⟨ji84, hji84⟩ : ∃ j_ : Int, (wrap64 (x16_2 - 1)) = j_ := ⟨_, rfl⟩
            replace H : (if 0 ≤ (ji84) then (if (ji84) < (t442.length : Int) then ((galloonref03_Less.f ((rd_T23 t442 (ji84)).f0) ((rd_T23 t442 (ji84)).f1) ((rd_T23 t442 x16_2).f0) ((rd_T23 t442 x16_2).f1)).bind fun t479 => (galloonlaw03_YardTouched.j2 k2 (wrap64 (1 + t439)) t442 t448 t457 x15_2 x16_2 (!t479) t440 t441 t455 t456)) else (none)) else (none)) = some r := by first | (rw [hji84] at H; exact H) | (simp only [hji84] at H ⊢; exact H)
            (try rw [hji84] at A37)
            (try rw [hji84] at A42)
            (try rw [hji84] at A70)
            (try rw [hji84] at A75)
            have hji84w : (IntKind.i64.wrap (x16_2 - 1)) = ji84 := (i64_w _).trans hji84
            by_cases c85 : 0 ≤ (ji84)
            case neg =>
             rw [if_neg c85] at H
             exact absurd H (by simp)
            rw [if_pos c85] at H
            have c85b0 : decide (0 ≤ (ji84)) = true := decide_eq_true c85
            clear c85
            by_cases c86 : (ji84) < (t442.length : Int)
            case neg =>
             rw [if_neg c86] at H
             exact absurd H (by simp)
            rw [if_pos c86] at H
            have c86b0 : decide ((ji84) < (t442.length : Int)) = true := decide_eq_true c86
            clear c86
            replace H := Option.bind_eq_some_iff.mp H
            obtain ⟨t479, A870, H⟩ := H
            replace H : (galloonlaw03_YardTouched.j2 k2 (wrap64 (1 + t439)) t442 t448 t457 x15_2 x16_2 (!t479) t440 t441 t455 t456) = some r := H
            have A87 := Aside0.mk A870
            clear A870
            have H' := Aside0.mk H
            clear H
            try go_wp2
            replace HO_7 := Aside0.mk (Kd.R_drew HO_7.out)
            replace HO_9 := Aside0.mk (Kd.R_drew HO_9.out)
            replace BK438 := Aside0.mk (blk_drew BK438.out)
            replace BK458 := Aside0.mk (blk_drew BK458.out)
            replace HB := Aside0.mk (below_drew1 HB.out)
            have p459 : 0 ≤ (x16_2 : Int) := oD
            have q459 : x16_2 < (t442.length : Int) := oD
            obtain ⟨ad459, e459, hx459_0, hx459_1⟩ := at_T23 (Kd.R_reads' HO_7.out).2.2 x16_2 p459 q459
            cases e459
            replace p459 := eq_true p459
            replace q459 := eq_true q459
            have p461 : 0 ≤ (x16_2 : Int) := oD
            have q461 : x16_2 < (t442.length : Int) := oD
            obtain ⟨ad461, e461, hx461_0, hx461_1⟩ := at_T23 (Kd.R_reads' HO_7.out).2.2 x16_2 p461 q461
            obtain rfl : ad459 = ad461 := (by injection e461)
            replace p461 := eq_true p461
            replace q461 := eq_true q461
            have p462 : 0 ≤ (x16_2 : Int) := oD
            have q462 : x16_2 < (t442.length : Int) := oD
            obtain ⟨ad462, e462, hx462_0, hx462_1⟩ := at_T23 (Kd.R_reads' HO_7.out).2.2 x16_2 p462 q462
            obtain rfl : ad459 = ad462 := (by injection e462)
            replace p462 := eq_true p462
            replace q462 := eq_true q462
            have p471 : 0 ≤ (x16_2 : Int) := oD
            have q471 : x16_2 < (t442.length : Int) := oD
            obtain ⟨ad471, e471, hx471_0, hx471_1⟩ := at_T23 (Kd.R_reads' HO_7.out).2.2 x16_2 p471 q471
            obtain rfl : ad459 = ad471 := (by injection e471)
            replace p471 := eq_true p471
            replace q471 := eq_true q471
            obtain ⟨Ao9_, co9_, eo9_⟩ := Kd.R_slice HO_9.out
            subst eo9_
            have p473 : 0 ≤ ((ji72) : Int) := oD
            have q473 : (ji72) < (t448.length : Int) := oD
            obtain ⟨ad473, e473, hx473_0, hx473_1⟩ := at_T23 (Kd.R_reads' HO_9.out).2.2 (ji72) p473 q473
            cases e473
            replace p473 := eq_true p473
            replace q473 := eq_true q473
            have p474 : 0 ≤ (x16_2 : Int) := oD
            have q474 : x16_2 < (t442.length : Int) := oD
            obtain ⟨ad474, e474, hx474_0, hx474_1⟩ := at_T23 (Kd.R_reads' HO_7.out).2.2 x16_2 p474 q474
            obtain rfl : ad459 = ad474 := (by injection e474)
            replace p474 := eq_true p474
            replace q474 := eq_true q474
            have p477 : 0 ≤ ((ji84) : Int) := oD
            have q477 : (ji84) < (t442.length : Int) := oD
            obtain ⟨ad477, e477, hx477_0, hx477_1⟩ := at_T23 (Kd.R_reads' HO_7.out).2.2 (ji84) p477 q477
            obtain rfl : ad459 = ad477 := (by injection e477)
            replace p477 := eq_true p477
            replace q477 := eq_true q477
            have p478 : 0 ≤ (x16_2 : Int) := oD
            have q478 : x16_2 < (t442.length : Int) := oD
            obtain ⟨ad478, e478, hx478_0, hx478_1⟩ := at_T23 (Kd.R_reads' HO_7.out).2.2 x16_2 p478 q478
            obtain rfl : ad459 = ad478 := (by injection e478)
            replace p478 := eq_true p478
            replace q478 := eq_true q478
            refine start_ (n := 66) (S := fun w' => w'.cell? ⟨gb438, 0, none⟩ = some (.int .i64 t440) ∧ w'.cell? ⟨gb438, 1, none⟩ = some (.int .i64 t441) ∧ w'.cell? (ad459.add ((x16_2).toNat * 2)) = some (.int .i64 ((rd_T23 t442 x16_2).f0)) ∧ w'.cell? ⟨(ad459.add ((x16_2).toNat * 2)).block, (ad459.add ((x16_2).toNat * 2)).off + 1, none⟩ = some (.int .i64 ((rd_T23 t442 x16_2).f1)) ∧ w'.cell? (ad459.add ((x16_2).toNat * 2)) = some (.int .i64 ((rd_T23 t442 x16_2).f0)) ∧ w'.cell? ⟨(ad459.add ((x16_2).toNat * 2)).block, (ad459.add ((x16_2).toNat * 2)).off + 1, none⟩ = some (.int .i64 ((rd_T23 t442 x16_2).f1)) ∧ w'.cell? (ad459.add ((x16_2).toNat * 2)) = some (.int .i64 ((rd_T23 t442 x16_2).f0)) ∧ w'.cell? ⟨(ad459.add ((x16_2).toNat * 2)).block, (ad459.add ((x16_2).toNat * 2)).off + 1, none⟩ = some (.int .i64 ((rd_T23 t442 x16_2).f1)) ∧ w'.cell? (ad459.add ((x16_2).toNat * 2)) = some (.int .i64 ((rd_T23 t442 x16_2).f0)) ∧ w'.cell? ⟨(ad459.add ((x16_2).toNat * 2)).block, (ad459.add ((x16_2).toNat * 2)).off + 1, none⟩ = some (.int .i64 ((rd_T23 t442 x16_2).f1)) ∧ w'.cell? (ad473.add (((ji72)).toNat * 2)) = some (.int .i64 ((rd_T23 t448 (ji72)).f0)) ∧ w'.cell? ⟨(ad473.add (((ji72)).toNat * 2)).block, (ad473.add (((ji72)).toNat * 2)).off + 1, none⟩ = some (.int .i64 ((rd_T23 t448 (ji72)).f1)) ∧ w'.cell? (ad459.add ((x16_2).toNat * 2)) = some (.int .i64 ((rd_T23 t442 x16_2).f0)) ∧ w'.cell? ⟨(ad459.add ((x16_2).toNat * 2)).block, (ad459.add ((x16_2).toNat * 2)).off + 1, none⟩ = some (.int .i64 ((rd_T23 t442 x16_2).f1)) ∧ w'.cell? (ad459.add (((ji84)).toNat * 2)) = some (.int .i64 ((rd_T23 t442 (ji84)).f0)) ∧ w'.cell? ⟨(ad459.add (((ji84)).toNat * 2)).block, (ad459.add (((ji84)).toNat * 2)).off + 1, none⟩ = some (.int .i64 ((rd_T23 t442 (ji84)).f1)) ∧ w'.cell? (ad459.add ((x16_2).toNat * 2)) = some (.int .i64 ((rd_T23 t442 x16_2).f0)) ∧ w'.cell? ⟨(ad459.add ((x16_2).toNat * 2)).block, (ad459.add ((x16_2).toNat * 2)).off + 1, none⟩ = some (.int .i64 ((rd_T23 t442 x16_2).f1))) (ds := []) (lb 66 0) (by kernel_rfl) rfl (by kernel_rfl) ⟨(blk_cell BK438.out 0).trans rfl, (blk_cell BK438.out 1).trans rfl, hx459_0, hx459_1, hx461_0, hx461_1, hx462_0, hx462_1, hx471_0, hx471_1, hx473_0, hx473_1, hx474_0, hx474_1, hx477_0, hx477_1, hx478_0, hx478_1⟩ (fun hHeld => ?_); refine with_tabW galloonlaw03_YardTouched.tab13 galloonlaw03_YardTouched.bits13 (fun HT_ HW_ => ?_)
            generalize wr.drew = w88 at HO_7 HO_9 BK438 BK458 HB hx459_0 hx459_1 hx461_0 hx461_1 hx462_0 hx462_1 hx471_0 hx471_1 hx473_0 hx473_1 hx474_0 hx474_1 hx477_0 hx477_1 hx478_0 hx478_1 hHeld ⊢
            refine pk HT_ 66 1 0 80 (h := ?_)
            refine pk HT_ 66 3 1 81 (h := ?_)
            refine pk HT_ 66 7 2 82 (h := ?_)
            refine tk18 HT_ HW_ hHeld 66 15 3 83 (h := ?_)
            refine one_ (i := 4) (N := some 84) (lb 66 31) rfl rfl (one_of HT_.out (by kernel_rfl)) (by decide) (fun K hK => ?_)
            refine gS Try.func20 #[.agg #[.int .i64 ((rd_T23 t442 x16_2).f0), .int .i64 ((rd_T23 t442 x16_2).f1)]] (h := ?_)
            with_reducible refine (galloonref03_Valid.calls k2 ((rd_T23 t442 x16_2).f0) ((rd_T23 t442 x16_2).f1) true _ A37.out).mono ?_
            rintro e w89 ⟨rfl, hb⟩
            have HS2_ := cS hHeld.2.2.1 hb
            have HS3_ := cS hHeld.2.2.2.1 hb
            have HS4_ := cS hHeld.2.2.2.2.1 hb
            have HS5_ := cS hHeld.2.2.2.2.2.1 hb
            have HS6_ := cS hHeld.2.2.2.2.2.2.1 hb
            have HS7_ := cS hHeld.2.2.2.2.2.2.2.1 hb
            have HS8_ := cS hHeld.2.2.2.2.2.2.2.2.1 hb
            have HS9_ := cS hHeld.2.2.2.2.2.2.2.2.2.1 hb
            have HS10_ := cS hHeld.2.2.2.2.2.2.2.2.2.2.1 hb
            have HS11_ := cS hHeld.2.2.2.2.2.2.2.2.2.2.2.1 hb
            have HS12_ := cS hHeld.2.2.2.2.2.2.2.2.2.2.2.2.1 hb
            have HS13_ := cS hHeld.2.2.2.2.2.2.2.2.2.2.2.2.2.1 hb
            have HS14_ := cS hHeld.2.2.2.2.2.2.2.2.2.2.2.2.2.2.1 hb
            have HS15_ := cS hHeld.2.2.2.2.2.2.2.2.2.2.2.2.2.2.2.1 hb
            have HS16_ := cS hHeld.2.2.2.2.2.2.2.2.2.2.2.2.2.2.2.2.1 hb
            have HS17_ := cS hHeld.2.2.2.2.2.2.2.2.2.2.2.2.2.2.2.2.2 hb
            refine ⟨_, rfl, ?_⟩
            replace HO_7 := rB HO_7 hb
            replace HO_9 := rB HO_9 hb
            replace BK438 := kB BK438 hb
            replace BK458 := kB BK458 hb
            replace HB := bS HB hb
            (try clear hb)
            (try clear hb2)
            (try clear hk)
            (try clear hi)
            refine hK.out _ _ ⟨(blk_cell BK438.out 0).trans rfl, (blk_cell BK438.out 1).trans rfl, HS2_, HS3_, HS4_, HS5_, HS6_, HS7_, HS8_, HS9_, HS10_, HS11_, HS12_, HS13_, HS14_, HS15_, HS16_, HS17_⟩ (fun hHeld => ?_)
            clear hK K
            refine norm_ (a' := ?_) ?_ ?_
            rotate_left
            ·show Act.put _ (some 84) _ = _
             simp only [Act.put, List.setIfInBounds_toArray, List.set_cons_zero, List.set_cons_succ, i64_w, i32_w]
             rfl
            refine pk HT_ 66 63 5 85 (h := ?_)
            refine pk HT_ 66 127 6 86 (h := ?_)
            refine pk HT_ 66 255 7 87 (h := ?_)
            refine pk HT_ 66 511 8 88 (h := ?_)
            refine pk HT_ 66 0x3ff 9 89 (h := ?_)
            refine pk HT_ 66 0x7ff 10 90 (h := ?_)
            refine pk HT_ 66 0x17ff 12 92 (h := ?_)
            refine tk18 HT_ HW_ hHeld 66 0x1fff 11 91 (h := ?_)
            refine pk HT_ 66 0x3fff 13 93 (h := ?_)
            refine pk HT_ 66 0x7fff 14 94 (h := ?_)
            refine pk HT_ 66 0xffff 15 95 (h := ?_)
            refine pk HT_ 66 0x1ffff 16 96 (h := ?_)
            refine pk HT_ 66 0x3ffff 17 97 (h := ?_)
            refine pk HT_ 66 0x7ffff 18 98 (h := ?_)
            refine tk18 HT_ HW_ hHeld 66 0xfffff 19 99 (h := ?_)
            refine tk18 HT_ HW_ hHeld 66 0x1fffff 20 100 (h := ?_)
            refine one_ (i := 21) (N := some 101) (lb 66 0x3fffff) rfl rfl (one_of HT_.out (by kernel_rfl)) (by decide) (fun K hK => ?_)
            refine gS Try.func33 #[.agg #[.int .i64 ((rd_T23 t442 x16_2).f0), .int .i64 ((rd_T23 t442 x16_2).f1)], .agg #[.int .i64 t440, .int .i64 t441]] (h := ?_)
            with_reducible refine (galloonref03_Neighbors.calls ((rd_T23 t442 x16_2).f0) ((rd_T23 t442 x16_2).f1) t440 t441 false _ A42.out).mono ?_
            rintro e w90 ⟨rfl, hb⟩
            have HS2_ := cS hHeld.2.2.1 hb
            have HS3_ := cS hHeld.2.2.2.1 hb
            have HS4_ := cS hHeld.2.2.2.2.1 hb
            have HS5_ := cS hHeld.2.2.2.2.2.1 hb
            have HS6_ := cS hHeld.2.2.2.2.2.2.1 hb
            have HS7_ := cS hHeld.2.2.2.2.2.2.2.1 hb
            have HS8_ := cS hHeld.2.2.2.2.2.2.2.2.1 hb
            have HS9_ := cS hHeld.2.2.2.2.2.2.2.2.2.1 hb
            have HS10_ := cS hHeld.2.2.2.2.2.2.2.2.2.2.1 hb
            have HS11_ := cS hHeld.2.2.2.2.2.2.2.2.2.2.2.1 hb
            have HS12_ := cS hHeld.2.2.2.2.2.2.2.2.2.2.2.2.1 hb
            have HS13_ := cS hHeld.2.2.2.2.2.2.2.2.2.2.2.2.2.1 hb
            have HS14_ := cS hHeld.2.2.2.2.2.2.2.2.2.2.2.2.2.2.1 hb
            have HS15_ := cS hHeld.2.2.2.2.2.2.2.2.2.2.2.2.2.2.2.1 hb
            have HS16_ := cS hHeld.2.2.2.2.2.2.2.2.2.2.2.2.2.2.2.2.1 hb
            have HS17_ := cS hHeld.2.2.2.2.2.2.2.2.2.2.2.2.2.2.2.2.2 hb
            refine ⟨_, rfl, ?_⟩
            replace HO_7 := rB HO_7 hb
            replace HO_9 := rB HO_9 hb
            replace BK438 := kB BK438 hb
            replace BK458 := kB BK458 hb
            replace HB := bS HB hb
            (try clear hb)
            (try clear hb2)
            (try clear hk)
            (try clear hi)
            refine hK.out _ _ ⟨(blk_cell BK438.out 0).trans rfl, (blk_cell BK438.out 1).trans rfl, HS2_, HS3_, HS4_, HS5_, HS6_, HS7_, HS8_, HS9_, HS10_, HS11_, HS12_, HS13_, HS14_, HS15_, HS16_, HS17_⟩ (fun hHeld => ?_)
            clear hK K
            refine norm_ (a' := ?_) ?_ ?_
            rotate_left
            ·show Act.put _ (some 101) _ = _
             simp only [Act.put, List.setIfInBounds_toArray, List.set_cons_zero, List.set_cons_succ, i64_w, i32_w]
             rfl
            refine pk HT_ 66 0x7fffff 22 102 (h := ?_)
            refine pk HT_ 66 0xffffff 23 103 (h := ?_)
            refine pk HT_ 66 0x2ffffff 25 105 (h := ?_)
            refine pk HT_ 66 0x6ffffff 26 106 (h := ?_)
            refine pk HT_ 66 0xeffffff 27 107 (h := ?_)
            refine tk18 HT_ HW_ hHeld 66 0xfffffff 24 104 (h := ?_)
            refine tk18 HT_ HW_ hHeld 66 0x1fffffff 28 108 (h := ?_)
            refine one_ (i := 29) (N := some 109) (lb 66 0x3fffffff) rfl rfl (one_of HT_.out (by kernel_rfl)) (by decide) (fun K hK => ?_)
            refine gS Try.func33 #[.agg #[.int .i64 t440, .int .i64 t441], .agg #[.int .i64 ((rd_T23 t442 x16_2).f0), .int .i64 ((rd_T23 t442 x16_2).f1)]] (h := ?_)
            with_reducible refine (galloonref03_Neighbors.calls t440 t441 ((rd_T23 t442 x16_2).f0) ((rd_T23 t442 x16_2).f1) true _ A70.out).mono ?_
            rintro e w91 ⟨rfl, hb⟩
            have HS2_ := cS hHeld.2.2.1 hb
            have HS3_ := cS hHeld.2.2.2.1 hb
            have HS4_ := cS hHeld.2.2.2.2.1 hb
            have HS5_ := cS hHeld.2.2.2.2.2.1 hb
            have HS6_ := cS hHeld.2.2.2.2.2.2.1 hb
            have HS7_ := cS hHeld.2.2.2.2.2.2.2.1 hb
            have HS8_ := cS hHeld.2.2.2.2.2.2.2.2.1 hb
            have HS9_ := cS hHeld.2.2.2.2.2.2.2.2.2.1 hb
            have HS10_ := cS hHeld.2.2.2.2.2.2.2.2.2.2.1 hb
            have HS11_ := cS hHeld.2.2.2.2.2.2.2.2.2.2.2.1 hb
            have HS12_ := cS hHeld.2.2.2.2.2.2.2.2.2.2.2.2.1 hb
            have HS13_ := cS hHeld.2.2.2.2.2.2.2.2.2.2.2.2.2.1 hb
            have HS14_ := cS hHeld.2.2.2.2.2.2.2.2.2.2.2.2.2.2.1 hb
            have HS15_ := cS hHeld.2.2.2.2.2.2.2.2.2.2.2.2.2.2.2.1 hb
            have HS16_ := cS hHeld.2.2.2.2.2.2.2.2.2.2.2.2.2.2.2.2.1 hb
            have HS17_ := cS hHeld.2.2.2.2.2.2.2.2.2.2.2.2.2.2.2.2.2 hb
            refine ⟨_, rfl, ?_⟩
            replace HO_7 := rB HO_7 hb
            replace HO_9 := rB HO_9 hb
            replace BK438 := kB BK438 hb
            replace BK458 := kB BK458 hb
            replace HB := bS HB hb
            (try clear hb)
            (try clear hb2)
            (try clear hk)
            (try clear hi)
            obtain ⟨Ao92, co92, eo92⟩ := Kd.R_slice HO_9.out
            (first | subst eo92 | (injection eo92 with f1_ f2_ f3_; have f4_ := f1_.symm; have f5_ := f3_.symm; clear f1_ f2_ f3_; subst f4_; subst f5_))
            refine hK.out _ _ ⟨(blk_cell BK438.out 0).trans rfl, (blk_cell BK438.out 1).trans rfl, HS2_, HS3_, HS4_, HS5_, HS6_, HS7_, HS8_, HS9_, HS10_, HS11_, HS12_, HS13_, HS14_, HS15_, HS16_, HS17_⟩ (fun hHeld => ?_)
            clear hK K
            refine norm_ (a' := ?_) ?_ ?_
            rotate_left
            ·show Act.put _ (some 109) _ = _
             simp only [Act.put, List.setIfInBounds_toArray, List.set_cons_zero, List.set_cons_succ, i64_w, i32_w]
             rfl
            refine pk HT_ 66 0x7fffffff 30 110 (h := ?_)
            refine pk HT_ 66 0xffffffff 31 111 (h := ?_)
            refine pk HT_ 66 0x1ffffffff 32 112 (h := ?_)
            refine pk HT_ 66 0x3ffffffff 33 113 (h := ?_)
            refine pk HT_ 66 0x7ffffffff 34 114 (h := ?_)
            refine pk HT_ 66 0xfffffffff 35 115 (h := ?_)
            refine pk HT_ 66 0x1fffffffff 36 116 (h := ?_)
            refine pk HT_ 66 0x3fffffffff 37 117 (h := ?_)
            refine pk HT_ 66 0x7fffffffff 38 118 (h := ?_)
            refine pk HT_ 66 0xffffffffff 39 119 (h := ?_)
            refine pk HT_ 66 0x1ffffffffff 40 120 (h := ?_)
            refine pk HT_ 66 0x5ffffffffff 42 122 (h := ?_)
            refine pk HT_ 66 0xdffffffffff 43 123 (h := ?_)
            refine pk HT_ 66 0x1dffffffffff 44 124 (h := ?_)
            refine tk18 HT_ HW_ hHeld 66 0x1fffffffffff 41 121 (h := ?_)
            refine tk18 HT_ HW_ hHeld 66 0x3fffffffffff 45 125 (h := ?_)
            refine one_ (i := 46) (N := some 126) (lb 66 0x7fffffffffff) rfl rfl (one_of HT_.out (by kernel_rfl)) (by decide) (fun K hK => ?_)
            refine gS Try.func27 #[.agg #[.int .i64 ((rd_T23 t442 x16_2).f0), .int .i64 ((rd_T23 t442 x16_2).f1)]] (h := ?_)
            with_reducible refine (galloonlaw03_rest.calls ((rd_T23 t442 x16_2).f0) ((rd_T23 t442 x16_2).f1) t475 t476 _ A75.out).mono ?_
            rintro e w93 ⟨rfl, hb⟩
            have HS2_ := cS hHeld.2.2.1 hb
            have HS3_ := cS hHeld.2.2.2.1 hb
            have HS4_ := cS hHeld.2.2.2.2.1 hb
            have HS5_ := cS hHeld.2.2.2.2.2.1 hb
            have HS6_ := cS hHeld.2.2.2.2.2.2.1 hb
            have HS7_ := cS hHeld.2.2.2.2.2.2.2.1 hb
            have HS8_ := cS hHeld.2.2.2.2.2.2.2.2.1 hb
            have HS9_ := cS hHeld.2.2.2.2.2.2.2.2.2.1 hb
            have HS10_ := cS hHeld.2.2.2.2.2.2.2.2.2.2.1 hb
            have HS11_ := cS hHeld.2.2.2.2.2.2.2.2.2.2.2.1 hb
            have HS12_ := cS hHeld.2.2.2.2.2.2.2.2.2.2.2.2.1 hb
            have HS13_ := cS hHeld.2.2.2.2.2.2.2.2.2.2.2.2.2.1 hb
            have HS14_ := cS hHeld.2.2.2.2.2.2.2.2.2.2.2.2.2.2.1 hb
            have HS15_ := cS hHeld.2.2.2.2.2.2.2.2.2.2.2.2.2.2.2.1 hb
            have HS16_ := cS hHeld.2.2.2.2.2.2.2.2.2.2.2.2.2.2.2.2.1 hb
            have HS17_ := cS hHeld.2.2.2.2.2.2.2.2.2.2.2.2.2.2.2.2.2 hb
            refine ⟨_, rfl, ?_⟩
            replace HO_7 := rB HO_7 hb
            replace HO_9 := rB HO_9 hb
            replace BK438 := kB BK438 hb
            replace BK458 := kB BK458 hb
            replace HB := bS HB hb
            (try clear hb)
            (try clear hb2)
            (try clear hk)
            (try clear hi)
            refine hK.out _ _ ⟨(blk_cell BK438.out 0).trans rfl, (blk_cell BK438.out 1).trans rfl, HS2_, HS3_, HS4_, HS5_, HS6_, HS7_, HS8_, HS9_, HS10_, HS11_, HS12_, HS13_, HS14_, HS15_, HS16_, HS17_⟩ (fun hHeld => ?_)
            clear hK K
            refine norm_ (a' := ?_) ?_ ?_
            rotate_left
            ·show Act.put _ (some 126) _ = _
             simp only [Act.put, List.setIfInBounds_toArray, List.set_cons_zero, List.set_cons_succ, i64_w, i32_w]
             rfl
            refine pk HT_ 66 0xffffffffffff 47 127 (h := ?_)
            refine pk HT_ 66 0x1ffffffffffff 48 128 (h := ?_)
            refine pk HT_ 66 0x3ffffffffffff 49 129 (h := ?_)
            refine pk HT_ 66 0x7ffffffffffff 50 130 (h := ?_)
            refine pk HT_ 66 0xfffffffffffff 51 131 (h := ?_)
            refine pk HT_ 66 0x1fffffffffffff 52 132 (h := ?_)
            refine pk HT_ 66 0x3fffffffffffff 53 133 (h := ?_)
            refine pk HT_ 66 0x7fffffffffffff 54 134 (h := ?_)
            refine pk HT_ 66 0xffffffffffffff 55 135 (h := ?_)
            refine pk HT_ 66 0x1ffffffffffffff 56 136 (h := ?_)
            refine pk HT_ 66 0x5ffffffffffffff 58 138 (h := ?_)
            refine pk HT_ 66 0xdffffffffffffff 59 139 (h := ?_)
            refine pk HT_ 66 0x1dffffffffffffff 60 140 (h := ?_)
            refine tk18 HT_ HW_ hHeld 66 0x1fffffffffffffff 57 137 (h := ?_)
            refine tk18 HT_ HW_ hHeld 66 0x3fffffffffffffff 61 141 (h := ?_)
            refine one_ (i := 62) (N := some 142) (lb 66 0x7fffffffffffffff) rfl rfl (one_of HT_.out (by kernel_rfl)) (by decide) (fun K hK => ?_)
            refine goes_ Try.func29 (by kernel_rfl) rfl #[.agg #[.int .i64 ((rd_T23 t442 (ji84)).f0), .int .i64 ((rd_T23 t442 (ji84)).f1)], .agg #[.int .i64 ((rd_T23 t442 x16_2).f0), .int .i64 ((rd_T23 t442 x16_2).f1)]] (by rfl) rfl rfl (by (try simp only [List.map_toArray, List.map_cons, List.map_nil]); first | done | (simp only [hji84]; rfl) | rfl | (simp only [List.length_drop, List.length_take]; rfl)) ?_
            with_reducible refine (galloonref03_Less.calls ((rd_T23 t442 (ji84)).f0) ((rd_T23 t442 (ji84)).f1) ((rd_T23 t442 x16_2).f0) ((rd_T23 t442 x16_2).f1) t479 _ A87.out).mono ?_
            rintro e w94 ⟨rfl, hb⟩
            have HS2_ := cS hHeld.2.2.1 hb
            have HS3_ := cS hHeld.2.2.2.1 hb
            have HS4_ := cS hHeld.2.2.2.2.1 hb
            have HS5_ := cS hHeld.2.2.2.2.2.1 hb
            have HS6_ := cS hHeld.2.2.2.2.2.2.1 hb
            have HS7_ := cS hHeld.2.2.2.2.2.2.2.1 hb
            have HS8_ := cS hHeld.2.2.2.2.2.2.2.2.1 hb
            have HS9_ := cS hHeld.2.2.2.2.2.2.2.2.2.1 hb
            have HS10_ := cS hHeld.2.2.2.2.2.2.2.2.2.2.1 hb
            have HS11_ := cS hHeld.2.2.2.2.2.2.2.2.2.2.2.1 hb
            have HS12_ := cS hHeld.2.2.2.2.2.2.2.2.2.2.2.2.1 hb
            have HS13_ := cS hHeld.2.2.2.2.2.2.2.2.2.2.2.2.2.1 hb
            have HS14_ := cS hHeld.2.2.2.2.2.2.2.2.2.2.2.2.2.2.1 hb
            have HS15_ := cS hHeld.2.2.2.2.2.2.2.2.2.2.2.2.2.2.2.1 hb
            have HS16_ := cS hHeld.2.2.2.2.2.2.2.2.2.2.2.2.2.2.2.2.1 hb
            have HS17_ := cS hHeld.2.2.2.2.2.2.2.2.2.2.2.2.2.2.2.2.2 hb
            refine ⟨_, rfl, ?_⟩
            replace HO_7 := rB HO_7 hb
            replace HO_9 := rB HO_9 hb
            replace BK438 := kB BK438 hb
            replace BK458 := kB BK458 hb
            replace HB := bS HB hb
            (try clear hb)
            (try clear hb2)
            (try clear hk)
            (try clear hi)
            refine hK.out _ _ ⟨(blk_cell BK438.out 0).trans rfl, (blk_cell BK438.out 1).trans rfl, HS2_, HS3_, HS4_, HS5_, HS6_, HS7_, HS8_, HS9_, HS10_, HS11_, HS12_, HS13_, HS14_, HS15_, HS16_, HS17_⟩ (fun hHeld => ?_)
            clear hK K
            refine norm_ (a' := ?_) ?_ ?_
            rotate_left
            ·show Act.put _ (some 142) _ = _
             simp only [Act.put, List.setIfInBounds_toArray, List.set_cons_zero, List.set_cons_succ, i64_w, i32_w]
             rfl
            refine pk HT_ 66 0xffffffffffffffff 63 143 (h := ?_)
            refine pk HT_ 66 0x1ffffffffffffffff 64 144 (h := ?_)
            refine pk HT_ 66 0x3ffffffffffffffff 65 145 (h := ?_)
            refine done_ (done_of HT_.out (by kernel_rfl)) ?_
            try go_wp2
            go_meet
            case rel => exact ⟨_, (!t479), (by first | rfl | (simp; done) | (simp [*]; done)), H', ⟨by have := HJ9.out; have := HK2.out; first | omega | exact Nat.le_refl _⟩, ⟨by (with_reducible repeat (first | apply Kd.R_alloc | apply Kd.R_drewN | apply Kd.R_drew)); exact HO_7.out⟩, ⟨by (with_reducible repeat (first | apply Kd.R_alloc | apply Kd.R_drewN | apply Kd.R_drew)); exact HO_9.out⟩, kA BK438, kA BK458, bA HB⟩
           ·rw [if_neg c83] at H
            have c83b0 : decide (0 < x16_2) = false := decide_eq_false c83
            clear c83
            have H' := Aside0.mk H
            clear H
            try go_wp2
            replace HO_7 := Aside0.mk (Kd.R_drew HO_7.out)
            replace HO_9 := Aside0.mk (Kd.R_drew HO_9.out)
            replace BK438 := Aside0.mk (blk_drew BK438.out)
            replace BK458 := Aside0.mk (blk_drew BK458.out)
            replace HB := Aside0.mk (below_drew1 HB.out)
            have p459 : 0 ≤ (x16_2 : Int) := oD
            have q459 : x16_2 < (t442.length : Int) := oD
            obtain ⟨ad459, e459, hx459_0, hx459_1⟩ := at_T23 (Kd.R_reads' HO_7.out).2.2 x16_2 p459 q459
            cases e459
            replace p459 := eq_true p459
            replace q459 := eq_true q459
            have p461 : 0 ≤ (x16_2 : Int) := oD
            have q461 : x16_2 < (t442.length : Int) := oD
            obtain ⟨ad461, e461, hx461_0, hx461_1⟩ := at_T23 (Kd.R_reads' HO_7.out).2.2 x16_2 p461 q461
            obtain rfl : ad459 = ad461 := (by injection e461)
            replace p461 := eq_true p461
            replace q461 := eq_true q461
            have p462 : 0 ≤ (x16_2 : Int) := oD
            have q462 : x16_2 < (t442.length : Int) := oD
            obtain ⟨ad462, e462, hx462_0, hx462_1⟩ := at_T23 (Kd.R_reads' HO_7.out).2.2 x16_2 p462 q462
            obtain rfl : ad459 = ad462 := (by injection e462)
            replace p462 := eq_true p462
            replace q462 := eq_true q462
            have p471 : 0 ≤ (x16_2 : Int) := oD
            have q471 : x16_2 < (t442.length : Int) := oD
            obtain ⟨ad471, e471, hx471_0, hx471_1⟩ := at_T23 (Kd.R_reads' HO_7.out).2.2 x16_2 p471 q471
            obtain rfl : ad459 = ad471 := (by injection e471)
            replace p471 := eq_true p471
            replace q471 := eq_true q471
            obtain ⟨Ao9_, co9_, eo9_⟩ := Kd.R_slice HO_9.out
            subst eo9_
            have p473 : 0 ≤ ((ji72) : Int) := oD
            have q473 : (ji72) < (t448.length : Int) := oD
            obtain ⟨ad473, e473, hx473_0, hx473_1⟩ := at_T23 (Kd.R_reads' HO_9.out).2.2 (ji72) p473 q473
            cases e473
            replace p473 := eq_true p473
            replace q473 := eq_true q473
            have p474 : 0 ≤ (x16_2 : Int) := oD
            have q474 : x16_2 < (t442.length : Int) := oD
            obtain ⟨ad474, e474, hx474_0, hx474_1⟩ := at_T23 (Kd.R_reads' HO_7.out).2.2 x16_2 p474 q474
            obtain rfl : ad459 = ad474 := (by injection e474)
            replace p474 := eq_true p474
            replace q474 := eq_true q474
            refine start_ (n := 66) (S := fun w' => w'.cell? ⟨gb438, 0, none⟩ = some (.int .i64 t440) ∧ w'.cell? ⟨gb438, 1, none⟩ = some (.int .i64 t441) ∧ w'.cell? (ad459.add ((x16_2).toNat * 2)) = some (.int .i64 ((rd_T23 t442 x16_2).f0)) ∧ w'.cell? ⟨(ad459.add ((x16_2).toNat * 2)).block, (ad459.add ((x16_2).toNat * 2)).off + 1, none⟩ = some (.int .i64 ((rd_T23 t442 x16_2).f1)) ∧ w'.cell? (ad459.add ((x16_2).toNat * 2)) = some (.int .i64 ((rd_T23 t442 x16_2).f0)) ∧ w'.cell? ⟨(ad459.add ((x16_2).toNat * 2)).block, (ad459.add ((x16_2).toNat * 2)).off + 1, none⟩ = some (.int .i64 ((rd_T23 t442 x16_2).f1)) ∧ w'.cell? (ad459.add ((x16_2).toNat * 2)) = some (.int .i64 ((rd_T23 t442 x16_2).f0)) ∧ w'.cell? ⟨(ad459.add ((x16_2).toNat * 2)).block, (ad459.add ((x16_2).toNat * 2)).off + 1, none⟩ = some (.int .i64 ((rd_T23 t442 x16_2).f1)) ∧ w'.cell? (ad459.add ((x16_2).toNat * 2)) = some (.int .i64 ((rd_T23 t442 x16_2).f0)) ∧ w'.cell? ⟨(ad459.add ((x16_2).toNat * 2)).block, (ad459.add ((x16_2).toNat * 2)).off + 1, none⟩ = some (.int .i64 ((rd_T23 t442 x16_2).f1)) ∧ w'.cell? (ad473.add (((ji72)).toNat * 2)) = some (.int .i64 ((rd_T23 t448 (ji72)).f0)) ∧ w'.cell? ⟨(ad473.add (((ji72)).toNat * 2)).block, (ad473.add (((ji72)).toNat * 2)).off + 1, none⟩ = some (.int .i64 ((rd_T23 t448 (ji72)).f1)) ∧ w'.cell? (ad459.add ((x16_2).toNat * 2)) = some (.int .i64 ((rd_T23 t442 x16_2).f0)) ∧ w'.cell? ⟨(ad459.add ((x16_2).toNat * 2)).block, (ad459.add ((x16_2).toNat * 2)).off + 1, none⟩ = some (.int .i64 ((rd_T23 t442 x16_2).f1))) (ds := []) (lb 66 0) (by kernel_rfl) rfl (by kernel_rfl) ⟨(blk_cell BK438.out 0).trans rfl, (blk_cell BK438.out 1).trans rfl, hx459_0, hx459_1, hx461_0, hx461_1, hx462_0, hx462_1, hx471_0, hx471_1, hx473_0, hx473_1, hx474_0, hx474_1⟩ (fun hHeld => ?_); refine with_tabW galloonlaw03_YardTouched.tab13 galloonlaw03_YardTouched.bits13 (fun HT_ HW_ => ?_)
            generalize wr.drew = w95 at HO_7 HO_9 BK438 BK458 HB hx459_0 hx459_1 hx461_0 hx461_1 hx462_0 hx462_1 hx471_0 hx471_1 hx473_0 hx473_1 hx474_0 hx474_1 hHeld ⊢
            refine pk HT_ 66 1 0 80 (h := ?_)
            refine pk HT_ 66 3 1 81 (h := ?_)
            refine pk HT_ 66 7 2 82 (h := ?_)
            refine tk14 HT_ HW_ hHeld 66 15 3 83 (h := ?_)
            refine one_ (i := 4) (N := some 84) (lb 66 31) rfl rfl (one_of HT_.out (by kernel_rfl)) (by decide) (fun K hK => ?_)
            refine gS Try.func20 #[.agg #[.int .i64 ((rd_T23 t442 x16_2).f0), .int .i64 ((rd_T23 t442 x16_2).f1)]] (h := ?_)
            with_reducible refine (galloonref03_Valid.calls k2 ((rd_T23 t442 x16_2).f0) ((rd_T23 t442 x16_2).f1) true _ A37.out).mono ?_
            rintro e w96 ⟨rfl, hb⟩
            have HS2_ := cS hHeld.2.2.1 hb
            have HS3_ := cS hHeld.2.2.2.1 hb
            have HS4_ := cS hHeld.2.2.2.2.1 hb
            have HS5_ := cS hHeld.2.2.2.2.2.1 hb
            have HS6_ := cS hHeld.2.2.2.2.2.2.1 hb
            have HS7_ := cS hHeld.2.2.2.2.2.2.2.1 hb
            have HS8_ := cS hHeld.2.2.2.2.2.2.2.2.1 hb
            have HS9_ := cS hHeld.2.2.2.2.2.2.2.2.2.1 hb
            have HS10_ := cS hHeld.2.2.2.2.2.2.2.2.2.2.1 hb
            have HS11_ := cS hHeld.2.2.2.2.2.2.2.2.2.2.2.1 hb
            have HS12_ := cS hHeld.2.2.2.2.2.2.2.2.2.2.2.2.1 hb
            have HS13_ := cS hHeld.2.2.2.2.2.2.2.2.2.2.2.2.2 hb
            refine ⟨_, rfl, ?_⟩
            replace HO_7 := rB HO_7 hb
            replace HO_9 := rB HO_9 hb
            replace BK438 := kB BK438 hb
            replace BK458 := kB BK458 hb
            replace HB := bS HB hb
            (try clear hb)
            (try clear hb2)
            (try clear hk)
            (try clear hi)
            refine hK.out _ _ ⟨(blk_cell BK438.out 0).trans rfl, (blk_cell BK438.out 1).trans rfl, HS2_, HS3_, HS4_, HS5_, HS6_, HS7_, HS8_, HS9_, HS10_, HS11_, HS12_, HS13_⟩ (fun hHeld => ?_)
            clear hK K
            refine norm_ (a' := ?_) ?_ ?_
            rotate_left
            ·show Act.put _ (some 84) _ = _
             simp only [Act.put, List.setIfInBounds_toArray, List.set_cons_zero, List.set_cons_succ, i64_w, i32_w]
             rfl
            refine pk HT_ 66 63 5 85 (h := ?_)
            refine pk HT_ 66 127 6 86 (h := ?_)
            refine pk HT_ 66 255 7 87 (h := ?_)
            refine pk HT_ 66 511 8 88 (h := ?_)
            refine pk HT_ 66 0x3ff 9 89 (h := ?_)
            refine pk HT_ 66 0x7ff 10 90 (h := ?_)
            refine pk HT_ 66 0x17ff 12 92 (h := ?_)
            refine tk14 HT_ HW_ hHeld 66 0x1fff 11 91 (h := ?_)
            refine pk HT_ 66 0x3fff 13 93 (h := ?_)
            refine pk HT_ 66 0x7fff 14 94 (h := ?_)
            refine pk HT_ 66 0xffff 15 95 (h := ?_)
            refine pk HT_ 66 0x1ffff 16 96 (h := ?_)
            refine pk HT_ 66 0x3ffff 17 97 (h := ?_)
            refine pk HT_ 66 0x7ffff 18 98 (h := ?_)
            refine tk14 HT_ HW_ hHeld 66 0xfffff 19 99 (h := ?_)
            refine tk14 HT_ HW_ hHeld 66 0x1fffff 20 100 (h := ?_)
            refine one_ (i := 21) (N := some 101) (lb 66 0x3fffff) rfl rfl (one_of HT_.out (by kernel_rfl)) (by decide) (fun K hK => ?_)
            refine gS Try.func33 #[.agg #[.int .i64 ((rd_T23 t442 x16_2).f0), .int .i64 ((rd_T23 t442 x16_2).f1)], .agg #[.int .i64 t440, .int .i64 t441]] (h := ?_)
            with_reducible refine (galloonref03_Neighbors.calls ((rd_T23 t442 x16_2).f0) ((rd_T23 t442 x16_2).f1) t440 t441 false _ A42.out).mono ?_
            rintro e w97 ⟨rfl, hb⟩
            have HS2_ := cS hHeld.2.2.1 hb
            have HS3_ := cS hHeld.2.2.2.1 hb
            have HS4_ := cS hHeld.2.2.2.2.1 hb
            have HS5_ := cS hHeld.2.2.2.2.2.1 hb
            have HS6_ := cS hHeld.2.2.2.2.2.2.1 hb
            have HS7_ := cS hHeld.2.2.2.2.2.2.2.1 hb
            have HS8_ := cS hHeld.2.2.2.2.2.2.2.2.1 hb
            have HS9_ := cS hHeld.2.2.2.2.2.2.2.2.2.1 hb
            have HS10_ := cS hHeld.2.2.2.2.2.2.2.2.2.2.1 hb
            have HS11_ := cS hHeld.2.2.2.2.2.2.2.2.2.2.2.1 hb
            have HS12_ := cS hHeld.2.2.2.2.2.2.2.2.2.2.2.2.1 hb
            have HS13_ := cS hHeld.2.2.2.2.2.2.2.2.2.2.2.2.2 hb
            refine ⟨_, rfl, ?_⟩
            replace HO_7 := rB HO_7 hb
            replace HO_9 := rB HO_9 hb
            replace BK438 := kB BK438 hb
            replace BK458 := kB BK458 hb
            replace HB := bS HB hb
            (try clear hb)
            (try clear hb2)
            (try clear hk)
            (try clear hi)
            refine hK.out _ _ ⟨(blk_cell BK438.out 0).trans rfl, (blk_cell BK438.out 1).trans rfl, HS2_, HS3_, HS4_, HS5_, HS6_, HS7_, HS8_, HS9_, HS10_, HS11_, HS12_, HS13_⟩ (fun hHeld => ?_)
            clear hK K
            refine norm_ (a' := ?_) ?_ ?_
            rotate_left
            ·show Act.put _ (some 101) _ = _
             simp only [Act.put, List.setIfInBounds_toArray, List.set_cons_zero, List.set_cons_succ, i64_w, i32_w]
             rfl
            refine pk HT_ 66 0x7fffff 22 102 (h := ?_)
            refine pk HT_ 66 0xffffff 23 103 (h := ?_)
            refine pk HT_ 66 0x2ffffff 25 105 (h := ?_)
            refine pk HT_ 66 0x6ffffff 26 106 (h := ?_)
            refine pk HT_ 66 0xeffffff 27 107 (h := ?_)
            refine tk14 HT_ HW_ hHeld 66 0xfffffff 24 104 (h := ?_)
            refine tk14 HT_ HW_ hHeld 66 0x1fffffff 28 108 (h := ?_)
            refine one_ (i := 29) (N := some 109) (lb 66 0x3fffffff) rfl rfl (one_of HT_.out (by kernel_rfl)) (by decide) (fun K hK => ?_)
            refine gS Try.func33 #[.agg #[.int .i64 t440, .int .i64 t441], .agg #[.int .i64 ((rd_T23 t442 x16_2).f0), .int .i64 ((rd_T23 t442 x16_2).f1)]] (h := ?_)
            with_reducible refine (galloonref03_Neighbors.calls t440 t441 ((rd_T23 t442 x16_2).f0) ((rd_T23 t442 x16_2).f1) true _ A70.out).mono ?_
            rintro e w98 ⟨rfl, hb⟩
            have HS2_ := cS hHeld.2.2.1 hb
            have HS3_ := cS hHeld.2.2.2.1 hb
            have HS4_ := cS hHeld.2.2.2.2.1 hb
            have HS5_ := cS hHeld.2.2.2.2.2.1 hb
            have HS6_ := cS hHeld.2.2.2.2.2.2.1 hb
            have HS7_ := cS hHeld.2.2.2.2.2.2.2.1 hb
            have HS8_ := cS hHeld.2.2.2.2.2.2.2.2.1 hb
            have HS9_ := cS hHeld.2.2.2.2.2.2.2.2.2.1 hb
            have HS10_ := cS hHeld.2.2.2.2.2.2.2.2.2.2.1 hb
            have HS11_ := cS hHeld.2.2.2.2.2.2.2.2.2.2.2.1 hb
            have HS12_ := cS hHeld.2.2.2.2.2.2.2.2.2.2.2.2.1 hb
            have HS13_ := cS hHeld.2.2.2.2.2.2.2.2.2.2.2.2.2 hb
            refine ⟨_, rfl, ?_⟩
            replace HO_7 := rB HO_7 hb
            replace HO_9 := rB HO_9 hb
            replace BK438 := kB BK438 hb
            replace BK458 := kB BK458 hb
            replace HB := bS HB hb
            (try clear hb)
            (try clear hb2)
            (try clear hk)
            (try clear hi)
            obtain ⟨Ao99, co99, eo99⟩ := Kd.R_slice HO_9.out
            (first | subst eo99 | (injection eo99 with f1_ f2_ f3_; have f4_ := f1_.symm; have f5_ := f3_.symm; clear f1_ f2_ f3_; subst f4_; subst f5_))
            refine hK.out _ _ ⟨(blk_cell BK438.out 0).trans rfl, (blk_cell BK438.out 1).trans rfl, HS2_, HS3_, HS4_, HS5_, HS6_, HS7_, HS8_, HS9_, HS10_, HS11_, HS12_, HS13_⟩ (fun hHeld => ?_)
            clear hK K
            refine norm_ (a' := ?_) ?_ ?_
            rotate_left
            ·show Act.put _ (some 109) _ = _
             simp only [Act.put, List.setIfInBounds_toArray, List.set_cons_zero, List.set_cons_succ, i64_w, i32_w]
             rfl
            refine pk HT_ 66 0x7fffffff 30 110 (h := ?_)
            refine pk HT_ 66 0xffffffff 31 111 (h := ?_)
            refine pk HT_ 66 0x1ffffffff 32 112 (h := ?_)
            refine pk HT_ 66 0x3ffffffff 33 113 (h := ?_)
            refine pk HT_ 66 0x7ffffffff 34 114 (h := ?_)
            refine pk HT_ 66 0xfffffffff 35 115 (h := ?_)
            refine pk HT_ 66 0x1fffffffff 36 116 (h := ?_)
            refine pk HT_ 66 0x3fffffffff 37 117 (h := ?_)
            refine pk HT_ 66 0x7fffffffff 38 118 (h := ?_)
            refine pk HT_ 66 0xffffffffff 39 119 (h := ?_)
            refine pk HT_ 66 0x1ffffffffff 40 120 (h := ?_)
            refine pk HT_ 66 0x5ffffffffff 42 122 (h := ?_)
            refine pk HT_ 66 0xdffffffffff 43 123 (h := ?_)
            refine pk HT_ 66 0x1dffffffffff 44 124 (h := ?_)
            refine tk14 HT_ HW_ hHeld 66 0x1fffffffffff 41 121 (h := ?_)
            refine tk14 HT_ HW_ hHeld 66 0x3fffffffffff 45 125 (h := ?_)
            refine one_ (i := 46) (N := some 126) (lb 66 0x7fffffffffff) rfl rfl (one_of HT_.out (by kernel_rfl)) (by decide) (fun K hK => ?_)
            refine gS Try.func27 #[.agg #[.int .i64 ((rd_T23 t442 x16_2).f0), .int .i64 ((rd_T23 t442 x16_2).f1)]] (h := ?_)
            with_reducible refine (galloonlaw03_rest.calls ((rd_T23 t442 x16_2).f0) ((rd_T23 t442 x16_2).f1) t475 t476 _ A75.out).mono ?_
            rintro e w100 ⟨rfl, hb⟩
            have HS2_ := cS hHeld.2.2.1 hb
            have HS3_ := cS hHeld.2.2.2.1 hb
            have HS4_ := cS hHeld.2.2.2.2.1 hb
            have HS5_ := cS hHeld.2.2.2.2.2.1 hb
            have HS6_ := cS hHeld.2.2.2.2.2.2.1 hb
            have HS7_ := cS hHeld.2.2.2.2.2.2.2.1 hb
            have HS8_ := cS hHeld.2.2.2.2.2.2.2.2.1 hb
            have HS9_ := cS hHeld.2.2.2.2.2.2.2.2.2.1 hb
            have HS10_ := cS hHeld.2.2.2.2.2.2.2.2.2.2.1 hb
            have HS11_ := cS hHeld.2.2.2.2.2.2.2.2.2.2.2.1 hb
            have HS12_ := cS hHeld.2.2.2.2.2.2.2.2.2.2.2.2.1 hb
            have HS13_ := cS hHeld.2.2.2.2.2.2.2.2.2.2.2.2.2 hb
            refine ⟨_, rfl, ?_⟩
            replace HO_7 := rB HO_7 hb
            replace HO_9 := rB HO_9 hb
            replace BK438 := kB BK438 hb
            replace BK458 := kB BK458 hb
            replace HB := bS HB hb
            (try clear hb)
            (try clear hb2)
            (try clear hk)
            (try clear hi)
            refine hK.out _ _ ⟨(blk_cell BK438.out 0).trans rfl, (blk_cell BK438.out 1).trans rfl, HS2_, HS3_, HS4_, HS5_, HS6_, HS7_, HS8_, HS9_, HS10_, HS11_, HS12_, HS13_⟩ (fun hHeld => ?_)
            clear hK K
            refine norm_ (a' := ?_) ?_ ?_
            rotate_left
            ·show Act.put _ (some 126) _ = _
             simp only [Act.put, List.setIfInBounds_toArray, List.set_cons_zero, List.set_cons_succ, i64_w, i32_w]
             rfl
            refine pk HT_ 66 0xffffffffffff 47 127 (h := ?_)
            refine pk HT_ 66 0x1ffffffffffff 48 128 (h := ?_)
            refine pk HT_ 66 0x3ffffffffffff 49 129 (h := ?_)
            refine pk HT_ 66 0x7ffffffffffff 50 130 (h := ?_)
            refine pk HT_ 66 0xfffffffffffff 51 131 (h := ?_)
            refine pk HT_ 66 0x1fffffffffffff 52 132 (h := ?_)
            refine pu HT_ 66 0x3fffffffffffff 53 133 (h := ?_)
            refine pu HT_ 66 0x7fffffffffffff 54 134 (h := ?_)
            refine pu HT_ 66 0xffffffffffffff 55 135 (h := ?_)
            refine pu HT_ 66 0x1ffffffffffffff 56 136 (h := ?_)
            refine pu HT_ 66 0x3ffffffffffffff 57 137 (h := ?_)
            refine pu HT_ 66 0x7ffffffffffffff 58 138 (h := ?_)
            refine pu HT_ 66 0xfffffffffffffff 59 139 (h := ?_)
            refine pu HT_ 66 0x1fffffffffffffff 60 140 (h := ?_)
            refine pu HT_ 66 0x3fffffffffffffff 61 141 (h := ?_)
            refine pu HT_ 66 0x7fffffffffffffff 62 142 (h := ?_)
            refine pu HT_ 66 0xffffffffffffffff 63 143 (h := ?_)
            refine pk HT_ 66 0x1ffffffffffffffff 64 144 (h := ?_)
            refine pk HT_ 66 0x3ffffffffffffffff 65 145 (h := ?_)
            refine done_ (done_of HT_.out (by kernel_rfl)) ?_
            try go_wp2
            go_meet
            case rel => exact ⟨_, (false), (by first | rfl | (simp; done) | (simp [*]; done)), H', ⟨by have := HJ9.out; have := HK2.out; first | omega | exact Nat.le_refl _⟩, ⟨by (with_reducible repeat (first | apply Kd.R_alloc | apply Kd.R_drewN | apply Kd.R_drew)); exact HO_7.out⟩, ⟨by (with_reducible repeat (first | apply Kd.R_alloc | apply Kd.R_drewN | apply Kd.R_drew)); exact HO_9.out⟩, kA BK438, kA BK458, bA HB⟩
       case rest =>
        clear HC34
        try clear p2
        try clear p4
        try clear q4
        try clear hx4
        try clear p6
        try clear p45
        try clear q45
        try clear hx45
        try clear p64
        try clear hx459_0
        try clear hx459_1
        try clear p459
        try clear q459
        obtain ⟨kq, x145_33, rfl, HA, HJ33, HO_7, HO_9, BK438, BK458, HB⟩ := hcut
        cases kq with
        | zero => exact absurd HA.out (by simp [galloonlaw03_YardTouched.j2])
        | succ kj33 =>
         have H := HA.out
         clear HA
         simp only [galloonlaw03_YardTouched.j2] at H
         by_cases c107 : x145_33 = true
         ·subst c107
          have H1 : (some false) = some r := by rw [if_pos rfl] at H; exact H
          clear H
          have H := H1
          clear H1
          obtain rfl := Option.some.inj H
          exact absurd hr.out (by decide)
         ·replace c107 := Bool.eq_false_iff.mpr c107
          subst c107
          have H1 : (if x15_2 = true then (galloonlaw03_YardTouched.l0 kj33 (wrap64 (1 + t439)) t442 t448 t457 true (wrap64 (x16_2 + 1)) t440 t441 t455 t456) else (if 0 ≤ x16_2 then (if x16_2 < (t442.length : Int) then (galloonlaw03_YardTouched.l0 kj33 (wrap64 (1 + t439)) t442 t448 t457 (((rd_T23 t442 x16_2).f0) == t455 && (((rd_T23 t442 x16_2).f1) == t456)) (wrap64 (x16_2 + 1)) t440 t441 t455 t456) else (none)) else (none))) = some r := by rw [if_neg (show ¬ (false = true) by decide)] at H; exact H
          clear H
          have H := H1
          clear H1
          by_cases c108 : x15_2 = true
          ·subst c108
           have H1 : (galloonlaw03_YardTouched.l0 kj33 (wrap64 (1 + t439)) t442 t448 t457 true (wrap64 (x16_2 + 1)) t440 t441 t455 t456) = some r := by rw [if_pos rfl] at H; exact H
           clear H
           have H := H1
           clear H1
           have H' := Aside0.mk H
           clear H
           try go_wp2
           replace HO_7 := Aside0.mk (Kd.R_drew HO_7.out)
           replace HO_9 := Aside0.mk (Kd.R_drew HO_9.out)
           replace BK438 := Aside0.mk (blk_drew BK438.out)
           replace BK458 := Aside0.mk (blk_drew BK458.out)
           replace HB := Aside0.mk (below_drew1 HB.out)
           refine start_ (n := 10) (S := fun w' => True) (ds := []) (lb 10 0) (by kernel_rfl) rfl rfl trivial (fun hHeld => ?_); refine with_tabW galloonlaw03_YardTouched.tab15 galloonlaw03_YardTouched.bits15 (fun HT_ HW_ => ?_)
           generalize wc.drew = w109 at HO_7 HO_9 BK438 BK458 HB hHeld ⊢
           refine pk HT_ 10 1 0 146 (h := ?_)
           refine pk HT_ 10 3 1 147 (h := ?_)
           refine pu HT_ 10 7 2 148 (h := ?_)
           refine pu HT_ 10 15 3 149 (h := ?_)
           refine pu HT_ 10 31 4 150 (h := ?_)
           refine pu HT_ 10 63 5 151 (h := ?_)
           refine pu HT_ 10 127 6 152 (h := ?_)
           refine pu HT_ 10 255 7 153 (h := ?_)
           refine pk HT_ 10 511 8 154 (h := ?_)
           refine pk HT_ 10 0x3ff 9 15 (h := ?_)
           refine done_ (done_of HT_.out (by kernel_rfl)) ?_
           try go_wp2
           go_roundg kj33
           case measure => have := HJ9.out; have := HK2.out; have := HJ33.out; omega
           case rel => exact ⟨(true), (wrap64 (x16_2 + 1)), (by first | rfl | (simp; done) | (simp [*]; done)), (by first | rfl | (simp; done) | (simp [*]; done)), H', ⟨by have := HJ9.out; have := HK2.out; have := HJ33.out; omega⟩, ⟨by (with_reducible repeat (first | apply Kd.R_alloc | apply Kd.R_drewN | apply Kd.R_drew)); exact HO_7.out⟩, ⟨by (with_reducible repeat (first | apply Kd.R_alloc | apply Kd.R_drewN | apply Kd.R_drew)); exact HO_9.out⟩, kA BK438, kA BK458, bA HB⟩
          ·replace c108 := Bool.eq_false_iff.mpr c108
           subst c108
           have H1 : (if 0 ≤ x16_2 then (if x16_2 < (t442.length : Int) then (galloonlaw03_YardTouched.l0 kj33 (wrap64 (1 + t439)) t442 t448 t457 (((rd_T23 t442 x16_2).f0) == t455 && (((rd_T23 t442 x16_2).f1) == t456)) (wrap64 (x16_2 + 1)) t440 t441 t455 t456) else (none)) else (none)) = some r := by rw [if_neg (show ¬ (false = true) by decide)] at H; exact H
           clear H
           have H := H1
           clear H1
           by_cases c110 : 0 ≤ x16_2
           case neg =>
            rw [if_neg c110] at H
            exact absurd H (by simp)
           rw [if_pos c110] at H
           have c110b0 : decide (0 ≤ x16_2) = true := decide_eq_true c110
           clear c110
           by_cases c111 : x16_2 < (t442.length : Int)
           case neg =>
            rw [if_neg c111] at H
            exact absurd H (by simp)
           rw [if_pos c111] at H
           have c111b0 : decide (x16_2 < (t442.length : Int)) = true := decide_eq_true c111
           clear c111
           have H' := Aside0.mk H
           clear H
           try go_wp2
           replace HO_7 := Aside0.mk (Kd.R_drew HO_7.out)
           replace HO_9 := Aside0.mk (Kd.R_drew HO_9.out)
           replace BK438 := Aside0.mk (blk_drew BK438.out)
           replace BK458 := Aside0.mk (blk_drew BK458.out)
           replace HB := Aside0.mk (below_drew1 HB.out)
           have p480 : 0 ≤ (x16_2 : Int) := oD
           have q480 : x16_2 < (t442.length : Int) := oD
           obtain ⟨ad480, e480, hx480_0, hx480_1⟩ := at_T23 (Kd.R_reads' HO_7.out).2.2 x16_2 p480 q480
           cases e480
           replace p480 := eq_true p480
           replace q480 := eq_true q480
           refine start_ (n := 10) (S := fun w' => w'.cell? ⟨gb458, 0, none⟩ = some (.int .i64 t455) ∧ w'.cell? ⟨gb458, 1, none⟩ = some (.int .i64 t456) ∧ w'.cell? (ad480.add ((x16_2).toNat * 2)) = some (.int .i64 ((rd_T23 t442 x16_2).f0)) ∧ w'.cell? ⟨(ad480.add ((x16_2).toNat * 2)).block, (ad480.add ((x16_2).toNat * 2)).off + 1, none⟩ = some (.int .i64 ((rd_T23 t442 x16_2).f1))) (ds := []) (lb 10 0) (by kernel_rfl) rfl (by kernel_rfl) ⟨(blk_cell BK458.out 0).trans rfl, (blk_cell BK458.out 1).trans rfl, hx480_0, hx480_1⟩ (fun hHeld => ?_); refine with_tabW galloonlaw03_YardTouched.tab15 galloonlaw03_YardTouched.bits15 (fun HT_ HW_ => ?_)
           generalize wc.drew = w112 at HO_7 HO_9 BK438 BK458 HB hx480_0 hx480_1 hHeld ⊢
           refine pk HT_ 10 1 0 146 (h := ?_)
           refine pk HT_ 10 3 1 147 (h := ?_)
           refine pk HT_ 10 7 2 148 (h := ?_)
           refine pk HT_ 10 15 3 149 (h := ?_)
           refine pk HT_ 10 31 4 150 (h := ?_)
           refine tk4 HT_ HW_ hHeld 10 63 5 151 (h := ?_)
           refine tk4 HT_ HW_ hHeld 10 127 6 152 (h := ?_)
           refine pk HT_ 10 255 7 153 (h := ?_)
           refine pk HT_ 10 511 8 154 (h := ?_)
           refine pk HT_ 10 0x3ff 9 15 (h := ?_)
           refine done_ (done_of HT_.out (by kernel_rfl)) ?_
           try go_wp2
           go_roundg kj33
           case measure => have := HJ9.out; have := HK2.out; have := HJ33.out; omega
           case rel => exact ⟨((((rd_T23 t442 x16_2).f0) == t455 && (((rd_T23 t442 x16_2).f1) == t456))), (wrap64 (x16_2 + 1)), (by first | rfl | (simp; done) | (simp [*]; done)), (by first | rfl | (simp; done) | (simp [*]; done)), H', ⟨by have := HJ9.out; have := HK2.out; have := HJ33.out; omega⟩, ⟨by (with_reducible repeat (first | apply Kd.R_alloc | apply Kd.R_drewN | apply Kd.R_drew)); exact HO_7.out⟩, ⟨by (with_reducible repeat (first | apply Kd.R_alloc | apply Kd.R_drewN | apply Kd.R_drew)); exact HO_9.out⟩, kA BK438, kA BK458, bA HB⟩
      ·rw [if_neg c33] at H
       have c33b0 : decide (x16_2 < (t442.length : Int)) = false := decide_eq_false c33
       clear c33
       replace H := Option.bind_eq_some_iff.mp H
       obtain ⟨⟨t481, t482⟩, A1130, H⟩ := H
       replace H : ((yard_Neighbors.f k2 t440 t441 t455 t456).bind fun bt483 => (if t457 = 0 then (if t482 = 0 then (if bt483.2 = 0 then (if t481 = true then (if (x15_2 == true) = true then ((galloonlaw03_awake.f k2).bind fun t485 => (some t485)) else (some false)) else (if (x15_2 == bt483.1) = true then ((galloonlaw03_awake.f k2).bind fun t486 => (some t486)) else (some false))) else (some false)) else (some false)) else (some false))) = some r := H
       have A113 := Aside0.mk A1130
       clear A1130
       replace H := Option.bind_eq_some_iff.mp H
       obtain ⟨⟨t483, t484⟩, A1140, H⟩ := H
       replace H : (if t457 = 0 then (if t482 = 0 then (if t484 = 0 then (if t481 = true then (if (x15_2 == true) = true then ((galloonlaw03_awake.f k2).bind fun t485 => (some t485)) else (some false)) else (if (x15_2 == t483) = true then ((galloonlaw03_awake.f k2).bind fun t486 => (some t486)) else (some false))) else (some false)) else (some false)) else (some false)) = some r := H
       have A114 := Aside0.mk A1140
       clear A1140
       by_cases c115 : t457 = 0
       case neg =>
        rw [if_neg c115] at H
        have c115b0 : (t457 == 0) = false := beq_eq_false_iff_ne.mpr c115
        have c115b1 : (t457 != 0) = true := bne_iff_ne.mpr c115
        obtain rfl := Option.some.inj H
        exact absurd hr.out (by decide)
       rw [if_pos c115] at H
       have c115b0 : (t457 == 0) = true := beq_iff_eq.mpr c115
       have c115b1 : (t457 != 0) = false := bne_eq_false_iff_eq.mpr c115
       clear c115
       by_cases c116 : t482 = 0
       case neg =>
        rw [if_neg c116] at H
        have c116b0 : (t482 == 0) = false := beq_eq_false_iff_ne.mpr c116
        have c116b1 : (t482 != 0) = true := bne_iff_ne.mpr c116
        obtain rfl := Option.some.inj H
        exact absurd hr.out (by decide)
       rw [if_pos c116] at H
       have c116b0 : (t482 == 0) = true := beq_iff_eq.mpr c116
       have c116b1 : (t482 != 0) = false := bne_eq_false_iff_eq.mpr c116
       clear c116
       by_cases c117 : t484 = 0
       case neg =>
        rw [if_neg c117] at H
        have c117b0 : (t484 == 0) = false := beq_eq_false_iff_ne.mpr c117
        have c117b1 : (t484 != 0) = true := bne_iff_ne.mpr c117
        obtain rfl := Option.some.inj H
        exact absurd hr.out (by decide)
       rw [if_pos c117] at H
       have c117b0 : (t484 == 0) = true := beq_iff_eq.mpr c117
       have c117b1 : (t484 != 0) = false := bne_eq_false_iff_eq.mpr c117
       clear c117
       by_cases c118 : t481 = true
       ·subst c118
        have H1 : (if (x15_2 == true) = true then ((galloonlaw03_awake.f k2).bind fun t485 => (some t485)) else (some false)) = some r := by rw [if_pos rfl] at H; exact H
        clear H
        have H := H1
        clear H1
        by_cases c119 : (x15_2 == true) = true
        case neg =>
         rw [if_neg c119] at H
         have c119b0 : (x15_2 == true) = false := by simpa using c119
         (try (have c119b1 : decide (x15_2 = true) = false := by simpa using c119))
         (try (have c119b2 : (x15_2 == true) = false := by simpa using c119))
         (try (have c119b3 : ¬ (x15_2 = true) := by simpa using c119))
         clear c119
         obtain rfl := Option.some.inj H
         exact absurd hr.out (by decide)
        rw [if_pos c119] at H
        have c119b0 : (x15_2 == true) = true := c119
        (try (have c119b1 : decide (x15_2 = true) = true := by simpa using c119))
        (try (have c119b2 : (x15_2 == true) = true := by simpa using c119))
        clear c119
        replace H := Option.bind_eq_some_iff.mp H
        obtain ⟨t485, A1200, H⟩ := H
        replace H : (some t485) = some r := H
        have A120 := Aside0.mk A1200
        clear A1200
        obtain rfl := Option.some.inj H
        obtain ⟨Ao121, co121, eo121⟩ := Kd.R_slice HO_7.out
        subst eo121
        have hnb122 := NB458_438.out
        have hnc122 := NB438_458.out
        obtain ⟨hcz123_0, hcz123_1, hfz123_0, hfz123_1⟩ := cQ BK458
        obtain ⟨hcz124_0, hcz124_1, hfz124_0, hfz124_1⟩ := cQ BK438
        go_wp2_with (first | ((with_reducible refine gate_callee (f := 32) rfl ?_); refine gL 158 Try.func32 #[.agg #[.int .i64 t455, .int .i64 t456], .agg #[.int .i64 t440, .int .i64 t441]] (h := ?_); (with_reducible refine (yard_Neighbors.calls k2 t455 t456 t440 t441 true t482 _ A113.out).mono ?_); rintro e w125 ⟨rfl, hb⟩; refine ⟨_, rfl, ?_⟩; replace HO_7 := rB HO_7 hb; replace HO_9 := rB HO_9 hb; replace BK438 := kB BK438 hb; replace BK458 := kB BK458 hb; replace HB := bS HB hb; (try clear hb); (try clear hb2); (try clear hk); (try clear hi); obtain ⟨hcz126_0, hcz126_1, hfz126_0, hfz126_1⟩ := cQ BK438; obtain ⟨hcz127_0, hcz127_1, hfz127_0, hfz127_1⟩ := cQ BK458) | ((with_reducible refine gate_callee (f := 32) rfl ?_); refine gL 164 Try.func32 #[.agg #[.int .i64 t440, .int .i64 t441], .agg #[.int .i64 t455, .int .i64 t456]] (h := ?_); (with_reducible refine (yard_Neighbors.calls k2 t440 t441 t455 t456 t483 t484 _ A114.out).mono ?_); rintro e w128 ⟨rfl, hb⟩; refine ⟨_, rfl, ?_⟩; replace HO_7 := rB HO_7 hb; replace HO_9 := rB HO_9 hb; replace BK438 := kB BK438 hb; replace BK458 := kB BK458 hb; replace HB := bS HB hb; (try clear hb); (try clear hb2); (try clear hk); (try clear hi)) | (go_at_call 21; (with_reducible refine (galloonlaw03_awake.calls k2  t485 _ A120.out).mono ?_); rintro e w129 ⟨rfl, hb⟩; replace HO_7 := rB HO_7 hb; replace HO_9 := rB HO_9 hb; replace BK438 := kB BK438 hb; replace BK458 := kB BK458 hb; replace HB := bS HB hb; (try clear hb); (try clear hb2); (try clear hk); (try clear hi)))
        go_ret
        exact ⟨by first | rfl | (simp [errW_none, errW_some] <;> rfl) | (simp [*, errW_none, errW_some] <;> rfl), bB HB⟩
       ·replace c118 := Bool.eq_false_iff.mpr c118
        subst c118
        have H1 : (if (x15_2 == t483) = true then ((galloonlaw03_awake.f k2).bind fun t486 => (some t486)) else (some false)) = some r := by rw [if_neg (show ¬ (false = true) by decide)] at H; exact H
        clear H
        have H := H1
        clear H1
        by_cases c130 : (x15_2 == t483) = true
        case neg =>
         rw [if_neg c130] at H
         have c130b0 : (x15_2 == t483) = false := by simpa using c130
         (try (have c130b1 : decide (x15_2 = t483) = false := by simpa using c130))
         (try (have c130b2 : (x15_2 == t483) = false := by simpa using c130))
         (try (have c130b3 : ¬ (x15_2 = t483) := by simpa using c130))
         clear c130
         obtain rfl := Option.some.inj H
         exact absurd hr.out (by decide)
        rw [if_pos c130] at H
        have c130b0 : (x15_2 == t483) = true := c130
        (try (have c130b1 : decide (x15_2 = t483) = true := by simpa using c130))
        (try (have c130b2 : (x15_2 == t483) = true := by simpa using c130))
        clear c130
        replace H := Option.bind_eq_some_iff.mp H
        obtain ⟨t486, A1310, H⟩ := H
        replace H : (some t486) = some r := H
        have A131 := Aside0.mk A1310
        clear A1310
        obtain rfl := Option.some.inj H
        obtain ⟨Ao132, co132, eo132⟩ := Kd.R_slice HO_7.out
        subst eo132
        have hnb133 := NB458_438.out
        have hnc133 := NB438_458.out
        obtain ⟨hcz134_0, hcz134_1, hfz134_0, hfz134_1⟩ := cQ BK458
        obtain ⟨hcz135_0, hcz135_1, hfz135_0, hfz135_1⟩ := cQ BK438
        go_wp2_with (first | ((with_reducible refine gate_callee (f := 32) rfl ?_); refine gL 158 Try.func32 #[.agg #[.int .i64 t455, .int .i64 t456], .agg #[.int .i64 t440, .int .i64 t441]] (h := ?_); (with_reducible refine (yard_Neighbors.calls k2 t455 t456 t440 t441 false t482 _ A113.out).mono ?_); rintro e w136 ⟨rfl, hb⟩; refine ⟨_, rfl, ?_⟩; replace HO_7 := rB HO_7 hb; replace HO_9 := rB HO_9 hb; replace BK438 := kB BK438 hb; replace BK458 := kB BK458 hb; replace HB := bS HB hb; (try clear hb); (try clear hb2); (try clear hk); (try clear hi); obtain ⟨hcz137_0, hcz137_1, hfz137_0, hfz137_1⟩ := cQ BK438; obtain ⟨hcz138_0, hcz138_1, hfz138_0, hfz138_1⟩ := cQ BK458) | ((with_reducible refine gate_callee (f := 32) rfl ?_); refine gL 164 Try.func32 #[.agg #[.int .i64 t440, .int .i64 t441], .agg #[.int .i64 t455, .int .i64 t456]] (h := ?_); (with_reducible refine (yard_Neighbors.calls k2 t440 t441 t455 t456 t483 t484 _ A114.out).mono ?_); rintro e w139 ⟨rfl, hb⟩; refine ⟨_, rfl, ?_⟩; replace HO_7 := rB HO_7 hb; replace HO_9 := rB HO_9 hb; replace BK438 := kB BK438 hb; replace BK458 := kB BK458 hb; replace HB := bS HB hb; (try clear hb); (try clear hb2); (try clear hk); (try clear hi)) | (go_at_call 21; (with_reducible refine (galloonlaw03_awake.calls k2  t486 _ A131.out).mono ?_); rintro e w140 ⟨rfl, hb⟩; replace HO_7 := rB HO_7 hb; replace HO_9 := rB HO_9 hb; replace BK438 := kB BK438 hb; replace BK458 := kB BK458 hb; replace HB := bS HB hb; (try clear hb); (try clear hb2); (try clear hk); (try clear hi)))
        go_ret
        exact ⟨by first | rfl | (simp [errW_none, errW_some] <;> rfl) | (simp [*, errW_none, errW_some] <;> rfl), bB HB⟩
/-- THE ONE PURE STATEMENT of galloonlaw03_YardTouched: yours. -/
def galloonlaw03_YardTouched.Pure : Prop := ∀ (a0 : Int) (a1 : Int) (a2_0 : Int) (a2_1 : Int), (Lit.int .i64 a0).wf = true → (Lit.int .i64 a1).wf = true → (Lit.int .i64 a2_0).wf = true → (Lit.int .i64 a2_1).wf = true → ∃ k, galloonlaw03_YardTouched.f k a0 a1 a2_0 a2_1 = some true
theorem galloonlaw03_YardTouched.walk (P : galloonlaw03_YardTouched.Pure) (a0 : Int) (a1 : Int) (a2_0 : Int) (a2_1 : Int) (w : World) (w0 : (Lit.int .i64 a0).wf = true) (w1 : (Lit.int .i64 a1).wf = true) (w2_0 : (Lit.int .i64 a2_0).wf = true) (w2_1 : (Lit.int .i64 a2_1).wf = true) :
 Calls Try.prog 12 #[.int .i64 a0, .int .i64 a1, .agg #[.int .i64 a2_0, .int .i64 a2_1]] w fun e w' => e = .returned (.bool true) ∧ Below w.heap.size w w' := by
 obtain ⟨k, h⟩ := P a0 a1 a2_0 a2_1 w0 w1 w2_0 w2_1
 refine (galloonlaw03_YardTouched.calls k a0 a1 a2_0 a2_1 true w h ⟨rfl⟩).mono ?_
 rintro e w' ⟨rfl, hd⟩
 exact ⟨rfl, hd⟩
end Go.Proofs.Ythjodhmkmjabbaa.PY
