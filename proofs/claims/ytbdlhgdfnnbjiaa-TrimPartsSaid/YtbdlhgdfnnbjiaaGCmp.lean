/- The order of Palindromes: the closure's walk. -/
import Derived.Test.YtbdlhgdfnnbjiaaGLongest
import Derived.WalkLawsBesides
namespace Go.Proofs.Ytbdlhgdfnnbjiaa.PY
open Go.RowKit Go.Shelf Go.Proofs.YtbdlhgdfnnbjiaaW.PrintWords Go.Proofs.YtbdlhgdfnnbjiaaW.PrintLast Go.Proofs.YtbdlhgdfnnbjiaaW.PrintMore
set_option linter.unusedVariables false
set_option linter.unusedSimpArgs false
def cmpI (a b : Int) : Int := if a < b then -1 else if b < a then 1 else 0
theorem cmp66 (a b : Int) (w : World) : Calls Try.prog 66 #[.int .i64 a, .int .i64 b] w fun e w' => e = .returned (.int .i64 (cmpI a b)) ∧ w' = w := by
  unfold cmpI
  by_cases h1 : a < b
  · rw [if_pos h1]
    have h2 : ¬ b < a := by omega
    go_enter Try.func66, Try.ntmps66
    go_wp2
    go_ret
    exact ⟨rfl, rfl⟩
  · rw [if_neg h1]
    by_cases h2 : b < a
    · rw [if_pos h2]
      go_enter Try.func66, Try.ntmps66
      go_wp2
      go_ret
      exact ⟨rfl, rfl⟩
    · rw [if_neg h2]
      go_enter Try.func66, Try.ntmps66
      go_wp2
      go_ret
      exact ⟨rfl, rfl⟩
theorem cmp67_lt (x y : ByteArray) (w : World) (h : Op.bytesLess x.toList y.toList = true) : Calls Try.prog 67 #[.string x, .string y] w fun e w' => e = .returned (.int .i64 (-1)) ∧ w' = w := by
  go_enter Try.func67, Try.ntmps67
  go_wp2
  go_ret
  exact ⟨rfl, rfl⟩
theorem cmp67_gt (x y : ByteArray) (w : World) (h : Op.bytesLess x.toList y.toList = false) (h2 : (x.toList == y.toList) = false) : Calls Try.prog 67 #[.string x, .string y] w fun e w' => e = .returned (.int .i64 1) ∧ w' = w := by
  have h3 : (!x.toList == y.toList) = true := by rw [h2]; rfl
  go_enter Try.func67, Try.ntmps67
  go_wp2
  go_ret
  exact ⟨rfl, rfl⟩
theorem cmp67_eq (x y : ByteArray) (w : World) (h : Op.bytesLess x.toList y.toList = false) (h2 : (x.toList == y.toList) = true) : Calls Try.prog 67 #[.string x, .string y] w fun e w' => e = .returned (.int .i64 0) ∧ w' = w := by
  have h3 : (!x.toList == y.toList) = false := by rw [h2]; rfl
  go_enter Try.func67, Try.ntmps67
  go_wp2
  go_ret
  exact ⟨rfl, rfl⟩
def cmpS (x y : List UInt8) : Int := if x < y then -1 else if y < x then 1 else 0
theorem lt_tri {x y : List UInt8} (h : ¬ x < y) (h2 : ¬ y < x) : x = y := by
  have h3 : y ≤ x := List.not_lt.1 h
  rcases List.le_iff_lt_or_eq.1 h3 with h4 | h4
  · exact absurd h4 h2
  · exact h4.symm
theorem cmp67 (x y : ByteArray) (w : World) : Calls Try.prog 67 #[.string x, .string y] w fun e w' => e = .returned (.int .i64 (cmpS x.data.toList y.data.toList)) ∧ w' = w := by
  have e1 : Op.bytesLess x.toList y.toList = decide (x.data.toList < y.data.toList) := by rw [bytesLess_eq, ByteArray.toList_eq, ByteArray.toList_eq]
  unfold cmpS
  by_cases h1 : x.data.toList < y.data.toList
  · rw [if_pos h1]
    exact cmp67_lt x y w (by rw [e1]; exact decide_eq_true h1)
  · rw [if_neg h1]
    by_cases h2 : y.data.toList < x.data.toList
    · rw [if_pos h2]
      refine cmp67_gt x y w (by rw [e1]; exact decide_eq_false h1) ?_
      rw [ByteArray.toList_eq, ByteArray.toList_eq]
      rw [beq_eq_false_iff_ne]
      intro e
      rw [e] at h2
      exact List.lt_irrefl _ h2
    · rw [if_neg h2]
      refine cmp67_eq x y w (by rw [e1]; exact decide_eq_false h1) ?_
      rw [ByteArray.toList_eq, ByteArray.toList_eq, lt_tri h1 h2]
      simp
def orI (a b : Int) : Int := if a ≠ 0 then a else b
theorem orI_0 (b : Int) : orI 0 b = b := rfl
theorem orI_ne {a : Int} (b : Int) (h : ¬ a = 0) : orI a b = a := by unfold orI; rw [if_pos h]
theorem or65_ne (a b : Int) (g : Nat) (w : World) (h0 : w.cell? ⟨g, 0, none⟩ = some (.int .i64 a)) (c : ¬ a = 0) :
    Calls Try.prog 65 #[.slice (some ⟨g, 0, none⟩) 2 2] w fun e w' => e = .returned (.int .i64 a) ∧ w' = w := by
  go_enter Try.func65, Try.ntmps65
  go_wp2
  go_loop [8] (fun t => t = .int .i64 0) (fun t => 1)
  case atStart => rfl
  case round =>
    obtain rfl := hrel
    go_wp2
    go_ret
    exact ⟨rfl, rfl⟩
theorem or65_0 (b : Int) (g : Nat) (w : World) (h0 : w.cell? ⟨g, 0, none⟩ = some (.int .i64 0)) (h1 : w.cell? ⟨g, 1, none⟩ = some (.int .i64 b)) :
    Calls Try.prog 65 #[.slice (some ⟨g, 0, none⟩) 2 2] w fun e w' => e = .returned (.int .i64 b) ∧ w' = w := by
  by_cases c : b = 0
  · subst c
    go_enter Try.func65, Try.ntmps65
    go_wp2
    go_loop [8] (fun t => ∃ i : Nat, i ≤ 2 ∧ t = .int .i64 i) (fun t => 2 - (intOf t).toNat)
    case atStart => exact ⟨0, by omega, rfl⟩
    case round =>
      obtain ⟨i, hi, rfl⟩ := hrel
      have hcase : i = 0 ∨ i = 1 ∨ i = 2 := by omega
      rcases hcase with rfl | rfl | rfl
      · go_wp2
        go_round
        case rel => exact ⟨1, by omega, rfl⟩
        case measure => simp [intOf]
      · go_wp2
        go_round
        case rel => exact ⟨2, by omega, rfl⟩
        case measure => simp [intOf]
      · go_wp2
        go_ret
        exact ⟨rfl, rfl⟩
  · go_enter Try.func65, Try.ntmps65
    go_wp2
    go_loop [8] (fun t => ∃ i : Nat, i ≤ 1 ∧ t = .int .i64 i) (fun t => 2 - (intOf t).toNat)
    case atStart => exact ⟨0, by omega, rfl⟩
    case round =>
      obtain ⟨i, hi, rfl⟩ := hrel
      have hcase : i = 0 ∨ i = 1 := by omega
      rcases hcase with rfl | rfl
      · go_wp2
        go_round
        case rel => exact ⟨1, by omega, rfl⟩
        case measure => simp [intOf]
      · go_wp2
        go_ret
        exact ⟨rfl, rfl⟩
theorem or65 (a b : Int) (g : Nat) (w : World) (h0 : w.cell? ⟨g, 0, none⟩ = some (.int .i64 a)) (h1 : w.cell? ⟨g, 1, none⟩ = some (.int .i64 b)) :
    Calls Try.prog 65 #[.slice (some ⟨g, 0, none⟩) 2 2] w fun e w' => e = .returned (.int .i64 (orI a b)) ∧ w' = w := by
  by_cases c : a = 0
  · subst c
    rw [orI_0]
    exact or65_0 b g w h0 h1
  · rw [orI_ne b c]
    exact or65_ne a b g w h0 c
/-- The comparison of Palindromes. -/
def cmpP (x y : List UInt8) : Int := orI (cmpI x.length y.length) (cmpS x y)
set_option maxHeartbeats 1000000 in
theorem cmp64 (x y : List UInt8) (w : World) : Calls Try.prog 64 #[encStr x, encStr y] w fun e w' => e = .returned (.int .i64 (cmpP x y)) ∧ ∃ q os', w' = Sort.grow (w.drewN q) os' := by
  have e1 := cmp66 x.length y.length
  have e2 := cmp67 ⟨x.toArray⟩ ⟨y.toArray⟩
  unfold encStr
  go_enter Try.func64, Try.ntmps64
  go_wp2_with (first | (go_at_call 66; (with_reducible refine (cmp66 _ _ _).mono ?_); rintro e w1 ⟨rfl, rfl⟩) | (go_at_call 67; (with_reducible refine (cmp67 _ _ _).mono ?_); rintro e w2 ⟨rfl, rfl⟩))
  obtain ⟨g, hg⟩ : ∃ g, g = w2.heap.size := ⟨_, rfl⟩
  rw [← hg]
  have h0 : (w2.alloc (.cells #[.int .i64 (cmpI x.length y.length), .int .i64 (cmpS x y)] 3 (0, 0))).cell? ⟨g, 0, none⟩ = some (.int .i64 (cmpI x.length y.length)) := by rw [hg]; simp
  have h1 : (w2.alloc (.cells #[.int .i64 (cmpI x.length y.length), .int .i64 (cmpS x y)] 3 (0, 0))).cell? ⟨g, 1, none⟩ = some (.int .i64 (cmpS x y)) := by rw [hg]; simp
  refine (or65 _ _ _ _ h0 h1).mono ?_
  rintro e w3 ⟨rfl, rfl⟩
  go_wp2
  go_ret
  exact ⟨rfl, 0, #[_], Sort.alloc_eq_grow _ _⟩
end Go.Proofs.Ytbdlhgdfnnbjiaa.PY
