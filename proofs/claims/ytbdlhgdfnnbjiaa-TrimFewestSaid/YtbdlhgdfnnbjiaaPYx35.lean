-- Made by the session's own driver (wip/tools/p2.py) out of the translation; Lean checks it.
import Derived.Test.YtbdlhgdfnnbjiaaPYx0
import Derived.Test.YtbdlhgdfnnbjiaaPYx10
import Derived.Test.YtbdlhgdfnnbjiaaPYx16
import Derived.Test.YtbdlhgdfnnbjiaaPYx32
import Derived.Test.YtbdlhgdfnnbjiaaPYx33
namespace Go.Proofs.Ytbdlhgdfnnbjiaa.PY
open Go.RowKit Go.Proofs.YtbdlhgdfnnbjiaaW.PrintWords Go.Proofs.YtbdlhgdfnnbjiaaW.PrintLast Go.Proofs.YtbdlhgdfnnbjiaaW.PrintMore
attribute [local go_sem] max2_int min2_int max_two min_two max_three min_three max_four min_four   -- for this text's walks alone
set_option linter.unusedVariables false
set_option linter.unusedSimpArgs false

/-! ### galloonlaw01_TrimFewest: function 11 -/
mutual
def galloonlaw01_TrimFewest.j0 : Nat → ByteArray → ByteArray → Bool → Option (Bool)
  | 0, _, _, _ => none
  | k + 1, x5, x6, x71 => if x71 = true then (some false) else ((trim_Ways.f k x5).bind fun bt516 => ((trim_Ways.f k x6).bind fun bt518 => (if x5.size + x6.size ≤ 9223372036854775807 then ((trim_Ways.f k (x5 ++ x6)).bind fun bt520 => (if bt516.2 = 0 then (if bt518.2 = 0 then (if bt516.1 < 1 then (galloonlaw01_TrimFewest.j1 k bt516.1 bt516.2 bt518.1 bt518.2 bt520.1 bt520.2 true) else (galloonlaw01_TrimFewest.j1 k bt516.1 bt516.2 bt518.1 bt518.2 bt520.1 bt520.2 (decide (bt518.1 < 1)))) else (galloonlaw01_TrimFewest.j1 k bt516.1 bt516.2 bt518.1 bt518.2 bt520.1 bt520.2 true)) else (galloonlaw01_TrimFewest.j1 k bt516.1 bt516.2 bt518.1 bt518.2 bt520.1 bt520.2 true))) else (none))))
def galloonlaw01_TrimFewest.j1 : Nat → Int → Int → Int → Int → Int → Int → Bool → Option (Bool)
  | 0, _, _, _, _, _, _, _ => none
  | k + 1, x13, x14, x15, x16, x17, x18, x102 => if x102 = true then (if x14 = 0 then (if x16 = 0 then (if x13 ≥ 0 then (if x15 ≥ 0 then ((galloonlaw01_awake.f k).bind fun t522 => (some t522)) else (some false)) else (some false)) else (if x16 = 5 then (if x13 ≥ 0 then (if x15 ≥ 0 then ((galloonlaw01_awake.f k).bind fun t523 => (some t523)) else (some false)) else (some false)) else (some false))) else (if x14 = 5 then (if x16 = 0 then (if x13 ≥ 0 then (if x15 ≥ 0 then ((galloonlaw01_awake.f k).bind fun t524 => (some t524)) else (some false)) else (some false)) else (if x16 = 5 then (if x13 ≥ 0 then (if x15 ≥ 0 then ((galloonlaw01_awake.f k).bind fun t525 => (some t525)) else (some false)) else (some false)) else (some false))) else (some false))) else (if x18 = 0 then (if x15 = 0 then (none) else (if x13 ≤ (wrap64 (Int.tdiv x17 x15)) then ((galloonlaw01_awake.f k).bind fun t526 => (some t526)) else (some false))) else (if x18 = 5 then ((galloonlaw01_awake.f k).bind fun t527 => (some t527)) else (some false)))
end
def galloonlaw01_TrimFewest.f (k : Nat) (a0 : ByteArray) (a1 : ByteArray) : Option (Bool) := (galloonlaw01_tame.f k a0 50).bind fun t501 => ((galloonlaw01_tame.f k a1 50).bind fun t502 => ((trim_Fewest.f k t501).bind fun bt503 => ((trim_Fewest.f k t502).bind fun bt507 => (if t501.size + t502.size ≤ 9223372036854775807 then ((trim_Fewest.f k (t501 ++ t502)).bind fun bt511 => (if bt503.2 = 0 then (if bt507.2 = 0 then (if bt511.2 = 0 then (if (bt511.1.length : Int) > (wrap64 ((bt503.1.length : Int) + (bt507.1.length : Int))) then (galloonlaw01_TrimFewest.j0 k t501 t502 true) else (if t501.toList = ([] : List UInt8) then (galloonlaw01_TrimFewest.j0 k t501 t502 (((bt503.1.length : Int) == 1) != false)) else ((galloonref01_Palindrome.f k t501).bind fun t515 => (galloonlaw01_TrimFewest.j0 k t501 t502 (((bt503.1.length : Int) == 1) != t515))))) else (galloonlaw01_TrimFewest.j0 k t501 t502 true)) else (galloonlaw01_TrimFewest.j0 k t501 t502 true)) else (galloonlaw01_TrimFewest.j0 k t501 t502 true))) else (none)))))
theorem galloonlaw01_TrimFewest.mono_l : ∀ k, (∀ y0 y1 y2, LeO (galloonlaw01_TrimFewest.j0 k y0 y1 y2) (galloonlaw01_TrimFewest.j0 (k + 1) y0 y1 y2)) ∧ (∀ y0 y1 y2 y3 y4 y5 y6, LeO (galloonlaw01_TrimFewest.j1 k y0 y1 y2 y3 y4 y5 y6) (galloonlaw01_TrimFewest.j1 (k + 1) y0 y1 y2 y3 y4 y5 y6))
  | 0 => ⟨fun _ _ _ r h => by simp [galloonlaw01_TrimFewest.j0] at h, fun _ _ _ _ _ _ _ r h => by simp [galloonlaw01_TrimFewest.j1] at h⟩
  | k + 1 => by
    obtain ⟨ih0, ih1⟩ := galloonlaw01_TrimFewest.mono_l k
    refine ⟨?_, ?_⟩
    · intro y0 y1 y2
      unfold galloonlaw01_TrimFewest.j0
      repeat' first
      | (with_reducible exact ih0 _ _ _)
      | (with_reducible exact ih1 _ _ _ _ _ _ _)
      | (with_reducible exact galloonlaw01_awake.mono _)
      | (with_reducible exact galloonlaw01_tame.mono _ _ _)
      | (with_reducible exact galloonref01_Palindrome.mono _ _)
      | (with_reducible exact trim_Fewest.mono _ _)
      | (with_reducible exact trim_Ways.mono _ _)
      | (with_reducible exact LeO.refl _)
      | (with_reducible exact LeO.none _)
      | (with_reducible refine LeO.ite ?_ ?_)
      | (with_reducible refine LeO.bind ?_ (fun _ => ?_))
      | exact ih0 _ _ _
      | exact ih1 _ _ _ _ _ _ _
      | exact galloonlaw01_awake.mono _
      | exact galloonlaw01_tame.mono _ _ _
      | exact galloonref01_Palindrome.mono _ _
      | exact trim_Fewest.mono _ _
      | exact trim_Ways.mono _ _
      | exact LeO.none _
      | refine LeO.ite ?_ ?_
      | refine LeO.bind ?_ (fun _ => ?_)
    · intro y0 y1 y2 y3 y4 y5 y6
      unfold galloonlaw01_TrimFewest.j1
      repeat' first
      | (with_reducible exact ih0 _ _ _)
      | (with_reducible exact ih1 _ _ _ _ _ _ _)
      | (with_reducible exact galloonlaw01_awake.mono _)
      | (with_reducible exact galloonlaw01_tame.mono _ _ _)
      | (with_reducible exact galloonref01_Palindrome.mono _ _)
      | (with_reducible exact trim_Fewest.mono _ _)
      | (with_reducible exact trim_Ways.mono _ _)
      | (with_reducible exact LeO.refl _)
      | (with_reducible exact LeO.none _)
      | (with_reducible refine LeO.ite ?_ ?_)
      | (with_reducible refine LeO.bind ?_ (fun _ => ?_))
      | exact ih0 _ _ _
      | exact ih1 _ _ _ _ _ _ _
      | exact galloonlaw01_awake.mono _
      | exact galloonlaw01_tame.mono _ _ _
      | exact galloonref01_Palindrome.mono _ _
      | exact trim_Fewest.mono _ _
      | exact trim_Ways.mono _ _
      | exact LeO.none _
      | refine LeO.ite ?_ ?_
      | refine LeO.bind ?_ (fun _ => ?_)
theorem galloonlaw01_TrimFewest.mono : ∀ a0 a1 k, LeO (galloonlaw01_TrimFewest.f k a0 a1) (galloonlaw01_TrimFewest.f (k + 1) a0 a1) := by
  intro a0 a1 k
  obtain ⟨ih0, ih1⟩ := galloonlaw01_TrimFewest.mono_l k
  unfold galloonlaw01_TrimFewest.f
  repeat' first
      | (with_reducible exact ih0 _ _ _)
      | (with_reducible exact ih1 _ _ _ _ _ _ _)
      | (with_reducible exact galloonlaw01_awake.mono _)
      | (with_reducible exact galloonlaw01_tame.mono _ _ _)
      | (with_reducible exact galloonref01_Palindrome.mono _ _)
      | (with_reducible exact trim_Fewest.mono _ _)
      | (with_reducible exact trim_Ways.mono _ _)
      | (with_reducible exact LeO.refl _)
      | (with_reducible exact LeO.none _)
      | (with_reducible refine LeO.ite ?_ ?_)
      | (with_reducible refine LeO.bind ?_ (fun _ => ?_))
      | exact ih0 _ _ _
      | exact ih1 _ _ _ _ _ _ _
      | exact galloonlaw01_awake.mono _
      | exact galloonlaw01_tame.mono _ _ _
      | exact galloonref01_Palindrome.mono _ _
      | exact trim_Fewest.mono _ _
      | exact trim_Ways.mono _ _
      | exact LeO.none _
      | refine LeO.ite ?_ ?_
      | refine LeO.bind ?_ (fun _ => ?_)
set_option maxHeartbeats 8000000 in
set_option maxRecDepth 100000 in
theorem galloonlaw01_TrimFewest.calls (k : Nat) (a0 : ByteArray) (a1 : ByteArray) (r : Bool) (w : World) (h : galloonlaw01_TrimFewest.f k a0 a1 = some r) (hr : Aside0 (r = true)) (hg : Glob w) :
    Calls Try.prog 11 #[.string a0, .string a1] w fun e w' => e = .returned (.bool r) ∧ Below w.heap.size w w' := by
  have HB := Aside0.mk (Below.refl w.heap.size w)
  have H : ((galloonlaw01_tame.f k a0 50).bind fun t501 => ((galloonlaw01_tame.f k a1 50).bind fun t502 => ((trim_Fewest.f k t501).bind fun bt503 => ((trim_Fewest.f k t502).bind fun bt507 => (if t501.size + t502.size ≤ 9223372036854775807 then ((trim_Fewest.f k (t501 ++ t502)).bind fun bt511 => (if bt503.2 = 0 then (if bt507.2 = 0 then (if bt511.2 = 0 then (if (bt511.1.length : Int) > (wrap64 ((bt503.1.length : Int) + (bt507.1.length : Int))) then (galloonlaw01_TrimFewest.j0 k t501 t502 true) else (if t501.toList = ([] : List UInt8) then (galloonlaw01_TrimFewest.j0 k t501 t502 (((bt503.1.length : Int) == 1) != false)) else ((galloonref01_Palindrome.f k t501).bind fun t515 => (galloonlaw01_TrimFewest.j0 k t501 t502 (((bt503.1.length : Int) == 1) != t515))))) else (galloonlaw01_TrimFewest.j0 k t501 t502 true)) else (galloonlaw01_TrimFewest.j0 k t501 t502 true)) else (galloonlaw01_TrimFewest.j0 k t501 t502 true))) else (none)))))) = some r := h
  clear h
  replace H := Option.bind_eq_some_iff.mp H
  obtain ⟨t501, A30, H⟩ := H
  replace H : ((galloonlaw01_tame.f k a1 50).bind fun t502 => ((trim_Fewest.f k t501).bind fun bt503 => ((trim_Fewest.f k t502).bind fun bt507 => (if t501.size + t502.size ≤ 9223372036854775807 then ((trim_Fewest.f k (t501 ++ t502)).bind fun bt511 => (if bt503.2 = 0 then (if bt507.2 = 0 then (if bt511.2 = 0 then (if (bt511.1.length : Int) > (wrap64 ((bt503.1.length : Int) + (bt507.1.length : Int))) then (galloonlaw01_TrimFewest.j0 k t501 t502 true) else (if t501.toList = ([] : List UInt8) then (galloonlaw01_TrimFewest.j0 k t501 t502 (((bt503.1.length : Int) == 1) != false)) else ((galloonref01_Palindrome.f k t501).bind fun t515 => (galloonlaw01_TrimFewest.j0 k t501 t502 (((bt503.1.length : Int) == 1) != t515))))) else (galloonlaw01_TrimFewest.j0 k t501 t502 true)) else (galloonlaw01_TrimFewest.j0 k t501 t502 true)) else (galloonlaw01_TrimFewest.j0 k t501 t502 true))) else (none))))) = some r := H
  have A3 := Aside0.mk A30
  clear A30
  replace H := Option.bind_eq_some_iff.mp H
  obtain ⟨t502, A40, H⟩ := H
  replace H : ((trim_Fewest.f k t501).bind fun bt503 => ((trim_Fewest.f k t502).bind fun bt507 => (if t501.size + t502.size ≤ 9223372036854775807 then ((trim_Fewest.f k (t501 ++ t502)).bind fun bt511 => (if bt503.2 = 0 then (if bt507.2 = 0 then (if bt511.2 = 0 then (if (bt511.1.length : Int) > (wrap64 ((bt503.1.length : Int) + (bt507.1.length : Int))) then (galloonlaw01_TrimFewest.j0 k t501 t502 true) else (if t501.toList = ([] : List UInt8) then (galloonlaw01_TrimFewest.j0 k t501 t502 (((bt503.1.length : Int) == 1) != false)) else ((galloonref01_Palindrome.f k t501).bind fun t515 => (galloonlaw01_TrimFewest.j0 k t501 t502 (((bt503.1.length : Int) == 1) != t515))))) else (galloonlaw01_TrimFewest.j0 k t501 t502 true)) else (galloonlaw01_TrimFewest.j0 k t501 t502 true)) else (galloonlaw01_TrimFewest.j0 k t501 t502 true))) else (none)))) = some r := H
  have A4 := Aside0.mk A40
  clear A40
  replace H := Option.bind_eq_some_iff.mp H
  obtain ⟨⟨t503, t504⟩, A50, H⟩ := H
  replace H : ((trim_Fewest.f k t502).bind fun bt507 => (if t501.size + t502.size ≤ 9223372036854775807 then ((trim_Fewest.f k (t501 ++ t502)).bind fun bt511 => (if t504 = 0 then (if bt507.2 = 0 then (if bt511.2 = 0 then (if (bt511.1.length : Int) > (wrap64 ((t503.length : Int) + (bt507.1.length : Int))) then (galloonlaw01_TrimFewest.j0 k t501 t502 true) else (if t501.toList = ([] : List UInt8) then (galloonlaw01_TrimFewest.j0 k t501 t502 (((t503.length : Int) == 1) != false)) else ((galloonref01_Palindrome.f k t501).bind fun t515 => (galloonlaw01_TrimFewest.j0 k t501 t502 (((t503.length : Int) == 1) != t515))))) else (galloonlaw01_TrimFewest.j0 k t501 t502 true)) else (galloonlaw01_TrimFewest.j0 k t501 t502 true)) else (galloonlaw01_TrimFewest.j0 k t501 t502 true))) else (none))) = some r := H
  have A5 := Aside0.mk A50
  clear A50
  replace H := Option.bind_eq_some_iff.mp H
  obtain ⟨⟨t507, t508⟩, A60, H⟩ := H
  replace H : (if t501.size + t502.size ≤ 9223372036854775807 then ((trim_Fewest.f k (t501 ++ t502)).bind fun bt511 => (if t504 = 0 then (if t508 = 0 then (if bt511.2 = 0 then (if (bt511.1.length : Int) > (wrap64 ((t503.length : Int) + (t507.length : Int))) then (galloonlaw01_TrimFewest.j0 k t501 t502 true) else (if t501.toList = ([] : List UInt8) then (galloonlaw01_TrimFewest.j0 k t501 t502 (((t503.length : Int) == 1) != false)) else ((galloonref01_Palindrome.f k t501).bind fun t515 => (galloonlaw01_TrimFewest.j0 k t501 t502 (((t503.length : Int) == 1) != t515))))) else (galloonlaw01_TrimFewest.j0 k t501 t502 true)) else (galloonlaw01_TrimFewest.j0 k t501 t502 true)) else (galloonlaw01_TrimFewest.j0 k t501 t502 true))) else (none)) = some r := H
  have A6 := Aside0.mk A60
  clear A60
  by_cases c7 : t501.size + t502.size ≤ 9223372036854775807
  · rw [if_pos c7] at H
    have c7b0 := eq_true c7
    have c7b1 : decide (t501.size + t502.size ≤ 9223372036854775807) = true := decide_eq_true c7
    try have c7b2 : (9223372036854775807 < t501.size + t502.size) = False := eq_false (Nat.not_lt.2 c7)
    replace H := Option.bind_eq_some_iff.mp H
    obtain ⟨⟨t511, t512⟩, A80, H⟩ := H
    replace H : (if t504 = 0 then (if t508 = 0 then (if t512 = 0 then (if (t511.length : Int) > (wrap64 ((t503.length : Int) + (t507.length : Int))) then (galloonlaw01_TrimFewest.j0 k t501 t502 true) else (if t501.toList = ([] : List UInt8) then (galloonlaw01_TrimFewest.j0 k t501 t502 (((t503.length : Int) == 1) != false)) else ((galloonref01_Palindrome.f k t501).bind fun t515 => (galloonlaw01_TrimFewest.j0 k t501 t502 (((t503.length : Int) == 1) != t515))))) else (galloonlaw01_TrimFewest.j0 k t501 t502 true)) else (galloonlaw01_TrimFewest.j0 k t501 t502 true)) else (galloonlaw01_TrimFewest.j0 k t501 t502 true)) = some r := H
    have A8 := Aside0.mk A80
    clear A80
    have HC9 := Aside0.mk H
    clear H
    go_enter Try.func11, Try.ntmps11
    go_upto_region 5 with (first | ((with_reducible refine gate_callee (f := 30) rfl ?_); refine goesL_ (some 20) rfl rfl Try.func30 (by kernel_rfl) rfl #[.string a0, .int .i64 50] rfl (by (try simp only [List.map_toArray, List.map_cons, List.map_nil]); first | done | rfl | (simp only [List.length_drop, List.length_take]; rfl)) ?_; (with_reducible refine (galloonlaw01_tame.calls k a0 50 t501 _ A3.out).mono ?_); rintro e w10 ⟨rfl, hb⟩; refine ⟨_, rfl, ?_⟩; have n0_ := Aside0.mk (below_step (by repeat (first | (with_reducible first | exact HB.out | apply below_alloc | apply pw_below_drewN | apply below_drew1) | exact HB.out)) hb); clear HB; have HB := n0_; clear n0_; (try clear hb); (try clear hb2); (try clear hk); (try clear hi)) | ((with_reducible refine gate_callee (f := 30) rfl ?_); refine goesL_ (some 22) rfl rfl Try.func30 (by kernel_rfl) rfl #[.string a1, .int .i64 50] rfl (by (try simp only [List.map_toArray, List.map_cons, List.map_nil]); first | done | rfl | (simp only [List.length_drop, List.length_take]; rfl)) ?_; (with_reducible refine (galloonlaw01_tame.calls k a1 50 t502 _ A4.out).mono ?_); rintro e w11 ⟨rfl, hb⟩; refine ⟨_, rfl, ?_⟩; have n0_ := Aside0.mk (below_step (by repeat (first | (with_reducible first | exact HB.out | apply below_alloc | apply pw_below_drewN | apply below_drew1) | exact HB.out)) hb); clear HB; have HB := n0_; clear n0_; (try clear hb); (try clear hb2); (try clear hk); (try clear hi)) | ((with_reducible refine gate_callee (f := 50) rfl ?_); refine goesL_ (some 25) rfl rfl Try.func50 (by kernel_rfl) rfl #[.string t501] rfl (by (try simp only [List.map_toArray, List.map_cons, List.map_nil]); first | done | rfl | (simp only [List.length_drop, List.length_take]; rfl)) ?_; (with_reducible refine (trim_Fewest.calls k t501 t503 t504 _ A5.out).mono ?_); rintro e w12 ⟨v505, rfl, ho0, hb⟩; refine ⟨_, rfl, ?_⟩; have n0_ := Aside0.mk (Kd.R_lower ho0 (below_size (by repeat (first | (with_reducible first | exact HB.out | apply below_alloc | apply pw_below_drewN | apply below_drew1) | exact HB.out)))); have n1_ := Aside0.mk (below_step (by repeat (first | (with_reducible first | exact HB.out | apply below_alloc | apply pw_below_drewN | apply below_drew1) | exact HB.out)) hb); clear HB; have HO506 := n0_; have HB := n1_; clear n0_ n1_; (try clear hb); (try clear hb2); (try clear hk); (try clear hi); (try clear ho0)) | ((with_reducible refine gate_callee (f := 50) rfl ?_); refine goesL_ (some 30) rfl rfl Try.func50 (by kernel_rfl) rfl #[.string t502] rfl (by (try simp only [List.map_toArray, List.map_cons, List.map_nil]); first | done | rfl | (simp only [List.length_drop, List.length_take]; rfl)) ?_; (with_reducible refine (trim_Fewest.calls k t502 t507 t508 _ A6.out).mono ?_); rintro e w13 ⟨v509, rfl, ho0, hb⟩; refine ⟨_, rfl, ?_⟩; have n0_ := Aside0.mk (Kd.R_elder' (by (with_reducible repeat (first | apply Kd.R_alloc | apply Kd.R_drewN | apply Kd.R_drew)); exact HO506.out) (Kd.R_base ho0) hb); have n1_ := Aside0.mk (Kd.R_lower (Kd.R_new' ho0 (Kd.R_lt (by (with_reducible repeat (first | apply Kd.R_alloc | apply Kd.R_drewN | apply Kd.R_drew)); exact HO506.out))) (below_size (by repeat (first | (with_reducible first | exact HB.out | apply below_alloc | apply pw_below_drewN | apply below_drew1) | exact HB.out)))); have n2_ := Aside0.mk (below_step (by repeat (first | (with_reducible first | exact HB.out | apply below_alloc | apply pw_below_drewN | apply below_drew1) | exact HB.out)) hb); clear HO506; clear HB; have HO506 := n0_; have HO510 := n1_; have HB := n2_; clear n0_ n1_ n2_; (try clear hb); (try clear hb2); (try clear hk); (try clear hi); (try clear ho0)) | ((with_reducible refine gate_callee (f := 50) rfl ?_); refine goesL_ (some 37) rfl rfl Try.func50 (by kernel_rfl) rfl #[.string (t501 ++ t502)] rfl (by (try simp only [List.map_toArray, List.map_cons, List.map_nil]); first | done | rfl | (simp only [List.length_drop, List.length_take]; rfl)) ?_; (with_reducible refine (trim_Fewest.calls k (t501 ++ t502) t511 t512 _ A8.out).mono ?_); rintro e w14 ⟨v513, rfl, ho0, hb⟩; refine ⟨_, rfl, ?_⟩; have n0_ := Aside0.mk (Kd.R_elder' (by (with_reducible repeat (first | apply Kd.R_alloc | apply Kd.R_drewN | apply Kd.R_drew)); exact HO506.out) (Kd.R_base ho0) hb); have n1_ := Aside0.mk (Kd.R_elder' (by (with_reducible repeat (first | apply Kd.R_alloc | apply Kd.R_drewN | apply Kd.R_drew)); exact HO510.out) (Kd.R_base ho0) hb); have n2_ := Aside0.mk (Kd.R_lower (Kd.R_new' (Kd.R_new' ho0 (Kd.R_lt (by (with_reducible repeat (first | apply Kd.R_alloc | apply Kd.R_drewN | apply Kd.R_drew)); exact HO506.out))) (Kd.R_lt (by (with_reducible repeat (first | apply Kd.R_alloc | apply Kd.R_drewN | apply Kd.R_drew)); exact HO510.out))) (below_size (by repeat (first | (with_reducible first | exact HB.out | apply below_alloc | apply pw_below_drewN | apply below_drew1) | exact HB.out)))); have n3_ := Aside0.mk (below_step (by repeat (first | (with_reducible first | exact HB.out | apply below_alloc | apply pw_below_drewN | apply below_drew1) | exact HB.out)) hb); clear HO506; clear HO510; clear HB; have HO506 := n0_; have HO510 := n1_; have HO514 := n2_; have HB := n3_; clear n0_ n1_ n2_ n3_; (try clear hb); (try clear hb2); (try clear hk); (try clear hi); (try clear ho0)))
    (try simp only [Act.put, List.setIfInBounds_toArray, List.set_cons_zero, List.set_cons_succ])
    go_cut [71] (fun v71 wc => ∃ (kq : Nat) (x71_8 : Bool), v71 = .bool x71_8 ∧ Aside0 (galloonlaw01_TrimFewest.j0 kq t501 t502 x71_8 = some r) ∧ Aside0 (kq ≤ k) ∧ Aside0 (Below w.heap.size w wc))
    case first =>
      have H := HC9.out
      clear HC9
      by_cases c15 : t504 = 0
      · rw [if_pos c15] at H
        have c15b0 : (t504 == 0) = true := beq_iff_eq.mpr c15
        have c15b1 : (t504 != 0) = false := bne_eq_false_iff_eq.mpr c15
        clear c15
        (first | rw [c15b0] | (simp only [i64_w, i32_w]; rw [c15b0]) | skip)
        by_cases c16 : t508 = 0
        · rw [if_pos c16] at H
          have c16b0 : (t508 == 0) = true := beq_iff_eq.mpr c16
          have c16b1 : (t508 != 0) = false := bne_eq_false_iff_eq.mpr c16
          clear c16
          by_cases c17 : t512 = 0
          · rw [if_pos c17] at H
            have c17b0 : (t512 == 0) = true := beq_iff_eq.mpr c17
            have c17b1 : (t512 != 0) = false := bne_eq_false_iff_eq.mpr c17
            clear c17
            by_cases c18 : (t511.length : Int) > (wrap64 ((t503.length : Int) + (t507.length : Int)))
            · rw [if_pos c18] at H
              have c18b0 : decide ((wrap64 ((t503.length : Int) + (t507.length : Int))) < (t511.length : Int)) = true := decide_eq_true c18
              clear c18
              have H' := Aside0.mk H
              clear H
              obtain ⟨Ao19, co19, eo19⟩ := Kd.R_slice HO514.out
              subst eo19
              obtain ⟨Ao20, co20, eo20⟩ := Kd.R_slice HO506.out
              subst eo20
              obtain ⟨Ao21, co21, eo21⟩ := Kd.R_slice HO510.out
              subst eo21
              go_wp2
              go_meet
              case rel => exact ⟨_, (true), (by first | rfl | (simp; done) | (simp [*]; done)), H', ⟨by first | omega | exact Nat.le_refl _⟩, ⟨by repeat (first | (with_reducible first | exact HB.out | apply below_alloc | apply pw_below_drewN | apply below_drew1) | exact HB.out)⟩⟩
            · rw [if_neg c18] at H
              have c18b0 : decide ((wrap64 ((t503.length : Int) + (t507.length : Int))) < (t511.length : Int)) = false := decide_eq_false c18
              clear c18
              by_cases c22 : t501.toList = ([] : List UInt8)
              · rw [if_pos c22] at H
                have c22b0 : (t501.toList == ([] : List UInt8)) = true := beq_iff_eq.mpr c22
                have c22b1 : (t501.toList != ([] : List UInt8)) = false := bne_eq_false_iff_eq.mpr c22
                clear c22
                have H' := Aside0.mk H
                clear H
                obtain ⟨Ao23, co23, eo23⟩ := Kd.R_slice HO514.out
                subst eo23
                obtain ⟨Ao24, co24, eo24⟩ := Kd.R_slice HO506.out
                subst eo24
                obtain ⟨Ao25, co25, eo25⟩ := Kd.R_slice HO510.out
                subst eo25
                go_wp2
                go_meet
                case rel => exact ⟨_, ((((t503.length : Int) == 1) != false)), (by first | rfl | (simp; done) | (simp [*]; done)), H', ⟨by first | omega | exact Nat.le_refl _⟩, ⟨by repeat (first | (with_reducible first | exact HB.out | apply below_alloc | apply pw_below_drewN | apply below_drew1) | exact HB.out)⟩⟩
              · rw [if_neg c22] at H
                have c22b0 : (t501.toList == ([] : List UInt8)) = false := beq_eq_false_iff_ne.mpr c22
                have c22b1 : (t501.toList != ([] : List UInt8)) = true := bne_iff_ne.mpr c22
                replace H := Option.bind_eq_some_iff.mp H
                obtain ⟨t515, A260, H⟩ := H
                replace H : (galloonlaw01_TrimFewest.j0 k t501 t502 (((t503.length : Int) == 1) != t515)) = some r := H
                have A26 := Aside0.mk A260
                clear A260
                have H' := Aside0.mk H
                clear H
                obtain ⟨Ao27, co27, eo27⟩ := Kd.R_slice HO514.out
                subst eo27
                obtain ⟨Ao28, co28, eo28⟩ := Kd.R_slice HO506.out
                subst eo28
                obtain ⟨Ao29, co29, eo29⟩ := Kd.R_slice HO510.out
                subst eo29
                go_wp2_with (first | (go_at_call 32; (with_reducible refine (galloonref01_Palindrome.calls k t501 t515 _ A26.out).mono ?_); rintro e w' ⟨rfl, ⟨nd, rfl⟩⟩))
                go_meet
                case rel => exact ⟨_, ((((t503.length : Int) == 1) != t515)), (by first | rfl | (simp; done) | (simp [*]; done)), H', ⟨by first | omega | exact Nat.le_refl _⟩, ⟨by repeat (first | (with_reducible first | exact HB.out | apply below_alloc | apply pw_below_drewN | apply below_drew1) | exact HB.out)⟩⟩
          · rw [if_neg c17] at H
            have c17b0 : (t512 == 0) = false := beq_eq_false_iff_ne.mpr c17
            have c17b1 : (t512 != 0) = true := bne_iff_ne.mpr c17
            have H' := Aside0.mk H
            clear H
            go_wp2
            go_meet
            case rel => exact ⟨_, (true), (by first | rfl | (simp; done) | (simp [*]; done)), H', ⟨by first | omega | exact Nat.le_refl _⟩, ⟨by repeat (first | (with_reducible first | exact HB.out | apply below_alloc | apply pw_below_drewN | apply below_drew1) | exact HB.out)⟩⟩
        · rw [if_neg c16] at H
          have c16b0 : (t508 == 0) = false := beq_eq_false_iff_ne.mpr c16
          have c16b1 : (t508 != 0) = true := bne_iff_ne.mpr c16
          have H' := Aside0.mk H
          clear H
          go_wp2
          go_meet
          case rel => exact ⟨_, (true), (by first | rfl | (simp; done) | (simp [*]; done)), H', ⟨by first | omega | exact Nat.le_refl _⟩, ⟨by repeat (first | (with_reducible first | exact HB.out | apply below_alloc | apply pw_below_drewN | apply below_drew1) | exact HB.out)⟩⟩
      · rw [if_neg c15] at H
        have c15b0 : (t504 == 0) = false := beq_eq_false_iff_ne.mpr c15
        have c15b1 : (t504 != 0) = true := bne_iff_ne.mpr c15
        (first | rw [c15b0] | (simp only [i64_w, i32_w]; rw [c15b0]) | skip)
        have H' := Aside0.mk H
        clear H
        go_wp2
        go_meet
        case rel => exact ⟨_, (true), (by first | rfl | (simp; done) | (simp [*]; done)), H', ⟨by first | omega | exact Nat.le_refl _⟩, ⟨by repeat (first | (with_reducible first | exact HB.out | apply below_alloc | apply pw_below_drewN | apply below_drew1) | exact HB.out)⟩⟩
    case rest =>
      clear HC9
      try clear c1
      try clear c2
      try clear p2
      try clear c3
      try clear c5
      try clear p6
      try clear c7
      try clear c7b0
      try clear c7b1
      try clear c7b2
      try clear c11
      try clear c15
      try clear c15b0
      try clear c15b1
      try clear c16
      try clear c16b0
      try clear c16b1
      try clear c17
      try clear c17b0
      try clear c17b1
      try clear c18
      try clear c18b0
      try clear c22
      try clear c22b0
      try clear c22b1
      obtain ⟨kq, x71_8, rfl, HA, HJ8, HB⟩ := hcut
      cases kq with
      | zero => exact absurd HA.out (by simp [galloonlaw01_TrimFewest.j0])
      | succ kj8 =>
        have H := HA.out
        clear HA
        simp only [galloonlaw01_TrimFewest.j0] at H
        by_cases c30 : x71_8 = true
        · subst c30
          have H1 : (some false) = some r := by rw [if_pos rfl] at H; exact H
          clear H
          have H := H1
          clear H1
          obtain rfl := Option.some.inj H
          exact absurd hr.out (by decide)
        · replace c30 := Bool.eq_false_iff.mpr c30
          subst c30
          have H1 : ((trim_Ways.f kj8 t501).bind fun bt516 => ((trim_Ways.f kj8 t502).bind fun bt518 => (if t501.size + t502.size ≤ 9223372036854775807 then ((trim_Ways.f kj8 (t501 ++ t502)).bind fun bt520 => (if bt516.2 = 0 then (if bt518.2 = 0 then (if bt516.1 < 1 then (galloonlaw01_TrimFewest.j1 kj8 bt516.1 bt516.2 bt518.1 bt518.2 bt520.1 bt520.2 true) else (galloonlaw01_TrimFewest.j1 kj8 bt516.1 bt516.2 bt518.1 bt518.2 bt520.1 bt520.2 (decide (bt518.1 < 1)))) else (galloonlaw01_TrimFewest.j1 kj8 bt516.1 bt516.2 bt518.1 bt518.2 bt520.1 bt520.2 true)) else (galloonlaw01_TrimFewest.j1 kj8 bt516.1 bt516.2 bt518.1 bt518.2 bt520.1 bt520.2 true))) else (none)))) = some r := by rw [if_neg (show ¬ (false = true) by decide)] at H; exact H
          clear H
          have H := H1
          clear H1
          replace H := Option.bind_eq_some_iff.mp H
          obtain ⟨⟨t516, t517⟩, A310, H⟩ := H
          replace H : ((trim_Ways.f kj8 t502).bind fun bt518 => (if t501.size + t502.size ≤ 9223372036854775807 then ((trim_Ways.f kj8 (t501 ++ t502)).bind fun bt520 => (if t517 = 0 then (if bt518.2 = 0 then (if t516 < 1 then (galloonlaw01_TrimFewest.j1 kj8 t516 t517 bt518.1 bt518.2 bt520.1 bt520.2 true) else (galloonlaw01_TrimFewest.j1 kj8 t516 t517 bt518.1 bt518.2 bt520.1 bt520.2 (decide (bt518.1 < 1)))) else (galloonlaw01_TrimFewest.j1 kj8 t516 t517 bt518.1 bt518.2 bt520.1 bt520.2 true)) else (galloonlaw01_TrimFewest.j1 kj8 t516 t517 bt518.1 bt518.2 bt520.1 bt520.2 true))) else (none))) = some r := H
          have A31 := Aside0.mk A310
          clear A310
          replace H := Option.bind_eq_some_iff.mp H
          obtain ⟨⟨t518, t519⟩, A320, H⟩ := H
          replace H : (if t501.size + t502.size ≤ 9223372036854775807 then ((trim_Ways.f kj8 (t501 ++ t502)).bind fun bt520 => (if t517 = 0 then (if t519 = 0 then (if t516 < 1 then (galloonlaw01_TrimFewest.j1 kj8 t516 t517 t518 t519 bt520.1 bt520.2 true) else (galloonlaw01_TrimFewest.j1 kj8 t516 t517 t518 t519 bt520.1 bt520.2 (decide (t518 < 1)))) else (galloonlaw01_TrimFewest.j1 kj8 t516 t517 t518 t519 bt520.1 bt520.2 true)) else (galloonlaw01_TrimFewest.j1 kj8 t516 t517 t518 t519 bt520.1 bt520.2 true))) else (none)) = some r := H
          have A32 := Aside0.mk A320
          clear A320
          by_cases c33 : t501.size + t502.size ≤ 9223372036854775807
          · rw [if_pos c33] at H
            have c33b0 := eq_true c33
            have c33b1 : decide (t501.size + t502.size ≤ 9223372036854775807) = true := decide_eq_true c33
            try have c33b2 : (9223372036854775807 < t501.size + t502.size) = False := eq_false (Nat.not_lt.2 c33)
            replace H := Option.bind_eq_some_iff.mp H
            obtain ⟨⟨t520, t521⟩, A340, H⟩ := H
            replace H : (if t517 = 0 then (if t519 = 0 then (if t516 < 1 then (galloonlaw01_TrimFewest.j1 kj8 t516 t517 t518 t519 t520 t521 true) else (galloonlaw01_TrimFewest.j1 kj8 t516 t517 t518 t519 t520 t521 (decide (t518 < 1)))) else (galloonlaw01_TrimFewest.j1 kj8 t516 t517 t518 t519 t520 t521 true)) else (galloonlaw01_TrimFewest.j1 kj8 t516 t517 t518 t519 t520 t521 true)) = some r := H
            have A34 := Aside0.mk A340
            clear A340
            have HC35 := Aside0.mk H
            clear H
            go_upto_region 10 with (first | ((with_reducible refine gate_callee (f := 51) rfl ?_); refine goesL_ (some 74) rfl rfl Try.func51 (by kernel_rfl) rfl #[.string t501] rfl (by (try simp only [List.map_toArray, List.map_cons, List.map_nil]); first | done | rfl | (simp only [List.length_drop, List.length_take]; rfl)) ?_; (with_reducible refine (trim_Ways.calls kj8 t501 t516 t517 _ A31.out).mono ?_); rintro e w36 ⟨rfl, hb⟩; refine ⟨_, rfl, ?_⟩; have n0_ := Aside0.mk (below_step (by repeat (first | (with_reducible first | exact HB.out | apply below_alloc | apply pw_below_drewN | apply below_drew1) | exact HB.out)) hb); clear HB; have HB := n0_; clear n0_; (try clear hb); (try clear hb2); (try clear hk); (try clear hi)) | ((with_reducible refine gate_callee (f := 51) rfl ?_); refine goesL_ (some 79) rfl rfl Try.func51 (by kernel_rfl) rfl #[.string t502] rfl (by (try simp only [List.map_toArray, List.map_cons, List.map_nil]); first | done | rfl | (simp only [List.length_drop, List.length_take]; rfl)) ?_; (with_reducible refine (trim_Ways.calls kj8 t502 t518 t519 _ A32.out).mono ?_); rintro e w37 ⟨rfl, hb⟩; refine ⟨_, rfl, ?_⟩; have n0_ := Aside0.mk (below_step (by repeat (first | (with_reducible first | exact HB.out | apply below_alloc | apply pw_below_drewN | apply below_drew1) | exact HB.out)) hb); clear HB; have HB := n0_; clear n0_; (try clear hb); (try clear hb2); (try clear hk); (try clear hi)) | ((with_reducible refine gate_callee (f := 51) rfl ?_); refine goesL_ (some 86) rfl rfl Try.func51 (by kernel_rfl) rfl #[.string (t501 ++ t502)] rfl (by (try simp only [List.map_toArray, List.map_cons, List.map_nil]); first | done | rfl | (simp only [List.length_drop, List.length_take]; rfl)) ?_; (with_reducible refine (trim_Ways.calls kj8 (t501 ++ t502) t520 t521 _ A34.out).mono ?_); rintro e w38 ⟨rfl, hb⟩; refine ⟨_, rfl, ?_⟩; have n0_ := Aside0.mk (below_step (by repeat (first | (with_reducible first | exact HB.out | apply below_alloc | apply pw_below_drewN | apply below_drew1) | exact HB.out)) hb); clear HB; have HB := n0_; clear n0_; (try clear hb); (try clear hb2); (try clear hk); (try clear hi)))
            (try simp only [Act.put, List.setIfInBounds_toArray, List.set_cons_zero, List.set_cons_succ])
            go_cut [102] (fun v102 wc => ∃ (kq : Nat) (x102_34 : Bool), v102 = .bool x102_34 ∧ Aside0 (galloonlaw01_TrimFewest.j1 kq t516 t517 t518 t519 t520 t521 x102_34 = some r) ∧ Aside0 (kq ≤ kj8) ∧ Aside0 (Below w.heap.size w wc))
            case first =>
              have H := HC35.out
              clear HC35
              by_cases c39 : t517 = 0
              · rw [if_pos c39] at H
                have c39b0 : (t517 == 0) = true := beq_iff_eq.mpr c39
                have c39b1 : (t517 != 0) = false := bne_eq_false_iff_eq.mpr c39
                clear c39
                (first | rw [c39b0] | (simp only [i64_w, i32_w]; rw [c39b0]) | skip)
                by_cases c40 : t519 = 0
                · rw [if_pos c40] at H
                  have c40b0 : (t519 == 0) = true := beq_iff_eq.mpr c40
                  have c40b1 : (t519 != 0) = false := bne_eq_false_iff_eq.mpr c40
                  clear c40
                  by_cases c41 : t516 < 1
                  · rw [if_pos c41] at H
                    have c41b0 : decide (t516 < 1) = true := decide_eq_true c41
                    clear c41
                    have H' := Aside0.mk H
                    clear H
                    go_wp2
                    go_meet
                    case rel => exact ⟨_, (true), (by first | rfl | (simp; done) | (simp [*]; done)), H', ⟨by have := HJ8.out; first | omega | exact Nat.le_refl _⟩, ⟨by repeat (first | (with_reducible first | exact HB.out | apply below_alloc | apply pw_below_drewN | apply below_drew1) | exact HB.out)⟩⟩
                  · rw [if_neg c41] at H
                    have c41b0 : decide (t516 < 1) = false := decide_eq_false c41
                    clear c41
                    have H' := Aside0.mk H
                    clear H
                    go_wp2
                    go_meet
                    case rel => exact ⟨_, (decide (t518 < 1)), (by first | rfl | (simp; done) | (simp [*]; done)), H', ⟨by have := HJ8.out; first | omega | exact Nat.le_refl _⟩, ⟨by repeat (first | (with_reducible first | exact HB.out | apply below_alloc | apply pw_below_drewN | apply below_drew1) | exact HB.out)⟩⟩
                · rw [if_neg c40] at H
                  have c40b0 : (t519 == 0) = false := beq_eq_false_iff_ne.mpr c40
                  have c40b1 : (t519 != 0) = true := bne_iff_ne.mpr c40
                  have H' := Aside0.mk H
                  clear H
                  go_wp2
                  go_meet
                  case rel => exact ⟨_, (true), (by first | rfl | (simp; done) | (simp [*]; done)), H', ⟨by have := HJ8.out; first | omega | exact Nat.le_refl _⟩, ⟨by repeat (first | (with_reducible first | exact HB.out | apply below_alloc | apply pw_below_drewN | apply below_drew1) | exact HB.out)⟩⟩
              · rw [if_neg c39] at H
                have c39b0 : (t517 == 0) = false := beq_eq_false_iff_ne.mpr c39
                have c39b1 : (t517 != 0) = true := bne_iff_ne.mpr c39
                (first | rw [c39b0] | (simp only [i64_w, i32_w]; rw [c39b0]) | skip)
                have H' := Aside0.mk H
                clear H
                go_wp2
                go_meet
                case rel => exact ⟨_, (true), (by first | rfl | (simp; done) | (simp [*]; done)), H', ⟨by have := HJ8.out; first | omega | exact Nat.le_refl _⟩, ⟨by repeat (first | (with_reducible first | exact HB.out | apply below_alloc | apply pw_below_drewN | apply below_drew1) | exact HB.out)⟩⟩
            case rest =>
              clear HC35
              try clear c1
              try clear c2
              try clear p2
              try clear c3
              try clear c4
              try clear c5
              try clear p6
              try clear c7
              try clear c7b0
              try clear c7b1
              try clear c7b2
              try clear c11
              try clear c15
              try clear c15b0
              try clear c15b1
              try clear c16
              try clear c16b0
              try clear c16b1
              try clear c17
              try clear c17b0
              try clear c17b1
              try clear c18
              try clear c18b0
              try clear c22
              try clear c22b0
              try clear c22b1
              try clear c30
              try clear c33
              try clear c33b0
              try clear c33b1
              try clear c33b2
              try clear c39
              try clear c39b0
              try clear c39b1
              try clear c40
              try clear c40b0
              try clear c40b1
              try clear c41
              try clear c41b0
              try clear p2
              try clear p6
              obtain ⟨kq, x102_34, rfl, HA, HJ34, HB⟩ := hcut
              cases kq with
              | zero => exact absurd HA.out (by simp [galloonlaw01_TrimFewest.j1])
              | succ kj34 =>
                have H := HA.out
                clear HA
                simp only [galloonlaw01_TrimFewest.j1] at H
                by_cases c42 : x102_34 = true
                · subst c42
                  have H1 : (if t517 = 0 then (if t519 = 0 then (if t516 ≥ 0 then (if t518 ≥ 0 then ((galloonlaw01_awake.f kj34).bind fun t522 => (some t522)) else (some false)) else (some false)) else (if t519 = 5 then (if t516 ≥ 0 then (if t518 ≥ 0 then ((galloonlaw01_awake.f kj34).bind fun t523 => (some t523)) else (some false)) else (some false)) else (some false))) else (if t517 = 5 then (if t519 = 0 then (if t516 ≥ 0 then (if t518 ≥ 0 then ((galloonlaw01_awake.f kj34).bind fun t524 => (some t524)) else (some false)) else (some false)) else (if t519 = 5 then (if t516 ≥ 0 then (if t518 ≥ 0 then ((galloonlaw01_awake.f kj34).bind fun t525 => (some t525)) else (some false)) else (some false)) else (some false))) else (some false))) = some r := by rw [if_pos rfl] at H; exact H
                  clear H
                  have H := H1
                  clear H1
                  by_cases c43 : t517 = 0
                  · rw [if_pos c43] at H
                    have c43b0 : (t517 == 0) = true := beq_iff_eq.mpr c43
                    have c43b1 : (t517 != 0) = false := bne_eq_false_iff_eq.mpr c43
                    clear c43
                    by_cases c44 : t519 = 0
                    · rw [if_pos c44] at H
                      have c44b0 : (t519 == 0) = true := beq_iff_eq.mpr c44
                      have c44b1 : (t519 != 0) = false := bne_eq_false_iff_eq.mpr c44
                      clear c44
                      by_cases c45 : t516 ≥ 0
                      · rw [if_pos c45] at H
                        have c45b0 : decide (0 ≤ t516) = true := decide_eq_true c45
                        clear c45
                        by_cases c46 : t518 ≥ 0
                        · rw [if_pos c46] at H
                          have c46b0 : decide (0 ≤ t518) = true := decide_eq_true c46
                          clear c46
                          replace H := Option.bind_eq_some_iff.mp H
                          obtain ⟨t522, A470, H⟩ := H
                          replace H : (some t522) = some r := H
                          have A47 := Aside0.mk A470
                          clear A470
                          obtain rfl := Option.some.inj H
                          go_wp2_with (first | (go_at_call 20; (with_reducible refine (galloonlaw01_awake.calls kj34  t522 _ A47.out (Glob.at hg (by repeat (first | (with_reducible first | exact HB.out | apply below_alloc | apply pw_below_drewN | apply below_drew1) | exact HB.out)))).mono ?_); rintro e w48 ⟨rfl, hb⟩; have n0_ := Aside0.mk (below_step (by repeat (first | (with_reducible first | exact HB.out | apply below_alloc | apply pw_below_drewN | apply below_drew1) | exact HB.out)) hb); clear HB; have HB := n0_; clear n0_; (try clear hb); (try clear hb2); (try clear hk); (try clear hi)))
                          go_ret
                          exact ⟨by first | rfl | (simp [errW_none, errW_some] <;> rfl) | (simp [*, errW_none, errW_some] <;> rfl), by repeat (first | (with_reducible first | exact HB.out | apply below_alloc | apply pw_below_drewN | apply below_drew1) | exact HB.out)⟩
                        · rw [if_neg c46] at H
                          have c46b0 : decide (0 ≤ t518) = false := decide_eq_false c46
                          clear c46
                          obtain rfl := Option.some.inj H
                          exact absurd hr.out (by decide)
                      · rw [if_neg c45] at H
                        have c45b0 : decide (0 ≤ t516) = false := decide_eq_false c45
                        clear c45
                        obtain rfl := Option.some.inj H
                        exact absurd hr.out (by decide)
                    · rw [if_neg c44] at H
                      have c44b0 : (t519 == 0) = false := beq_eq_false_iff_ne.mpr c44
                      have c44b1 : (t519 != 0) = true := bne_iff_ne.mpr c44
                      by_cases c49 : t519 = 5
                      · rw [if_pos c49] at H
                        have c49b0 : (t519 == 5) = true := beq_iff_eq.mpr c49
                        have c49b1 : (t519 != 5) = false := bne_eq_false_iff_eq.mpr c49
                        clear c49
                        by_cases c50 : t516 ≥ 0
                        · rw [if_pos c50] at H
                          have c50b0 : decide (0 ≤ t516) = true := decide_eq_true c50
                          clear c50
                          by_cases c51 : t518 ≥ 0
                          · rw [if_pos c51] at H
                            have c51b0 : decide (0 ≤ t518) = true := decide_eq_true c51
                            clear c51
                            replace H := Option.bind_eq_some_iff.mp H
                            obtain ⟨t523, A520, H⟩ := H
                            replace H : (some t523) = some r := H
                            have A52 := Aside0.mk A520
                            clear A520
                            obtain rfl := Option.some.inj H
                            go_wp2_with (first | (go_at_call 20; (with_reducible refine (galloonlaw01_awake.calls kj34  t523 _ A52.out (Glob.at hg (by repeat (first | (with_reducible first | exact HB.out | apply below_alloc | apply pw_below_drewN | apply below_drew1) | exact HB.out)))).mono ?_); rintro e w53 ⟨rfl, hb⟩; have n0_ := Aside0.mk (below_step (by repeat (first | (with_reducible first | exact HB.out | apply below_alloc | apply pw_below_drewN | apply below_drew1) | exact HB.out)) hb); clear HB; have HB := n0_; clear n0_; (try clear hb); (try clear hb2); (try clear hk); (try clear hi)))
                            go_ret
                            exact ⟨by first | rfl | (simp [errW_none, errW_some] <;> rfl) | (simp [*, errW_none, errW_some] <;> rfl), by repeat (first | (with_reducible first | exact HB.out | apply below_alloc | apply pw_below_drewN | apply below_drew1) | exact HB.out)⟩
                          · rw [if_neg c51] at H
                            have c51b0 : decide (0 ≤ t518) = false := decide_eq_false c51
                            clear c51
                            obtain rfl := Option.some.inj H
                            exact absurd hr.out (by decide)
                        · rw [if_neg c50] at H
                          have c50b0 : decide (0 ≤ t516) = false := decide_eq_false c50
                          clear c50
                          obtain rfl := Option.some.inj H
                          exact absurd hr.out (by decide)
                      · rw [if_neg c49] at H
                        have c49b0 : (t519 == 5) = false := beq_eq_false_iff_ne.mpr c49
                        have c49b1 : (t519 != 5) = true := bne_iff_ne.mpr c49
                        obtain rfl := Option.some.inj H
                        exact absurd hr.out (by decide)
                  · rw [if_neg c43] at H
                    have c43b0 : (t517 == 0) = false := beq_eq_false_iff_ne.mpr c43
                    have c43b1 : (t517 != 0) = true := bne_iff_ne.mpr c43
                    by_cases c54 : t517 = 5
                    · rw [if_pos c54] at H
                      have c54b0 : (t517 == 5) = true := beq_iff_eq.mpr c54
                      have c54b1 : (t517 != 5) = false := bne_eq_false_iff_eq.mpr c54
                      clear c54
                      by_cases c55 : t519 = 0
                      · rw [if_pos c55] at H
                        have c55b0 : (t519 == 0) = true := beq_iff_eq.mpr c55
                        have c55b1 : (t519 != 0) = false := bne_eq_false_iff_eq.mpr c55
                        clear c55
                        by_cases c56 : t516 ≥ 0
                        · rw [if_pos c56] at H
                          have c56b0 : decide (0 ≤ t516) = true := decide_eq_true c56
                          clear c56
                          by_cases c57 : t518 ≥ 0
                          · rw [if_pos c57] at H
                            have c57b0 : decide (0 ≤ t518) = true := decide_eq_true c57
                            clear c57
                            replace H := Option.bind_eq_some_iff.mp H
                            obtain ⟨t524, A580, H⟩ := H
                            replace H : (some t524) = some r := H
                            have A58 := Aside0.mk A580
                            clear A580
                            obtain rfl := Option.some.inj H
                            go_wp2_with (first | (go_at_call 20; (with_reducible refine (galloonlaw01_awake.calls kj34  t524 _ A58.out (Glob.at hg (by repeat (first | (with_reducible first | exact HB.out | apply below_alloc | apply pw_below_drewN | apply below_drew1) | exact HB.out)))).mono ?_); rintro e w59 ⟨rfl, hb⟩; have n0_ := Aside0.mk (below_step (by repeat (first | (with_reducible first | exact HB.out | apply below_alloc | apply pw_below_drewN | apply below_drew1) | exact HB.out)) hb); clear HB; have HB := n0_; clear n0_; (try clear hb); (try clear hb2); (try clear hk); (try clear hi)))
                            go_ret
                            exact ⟨by first | rfl | (simp [errW_none, errW_some] <;> rfl) | (simp [*, errW_none, errW_some] <;> rfl), by repeat (first | (with_reducible first | exact HB.out | apply below_alloc | apply pw_below_drewN | apply below_drew1) | exact HB.out)⟩
                          · rw [if_neg c57] at H
                            have c57b0 : decide (0 ≤ t518) = false := decide_eq_false c57
                            clear c57
                            obtain rfl := Option.some.inj H
                            exact absurd hr.out (by decide)
                        · rw [if_neg c56] at H
                          have c56b0 : decide (0 ≤ t516) = false := decide_eq_false c56
                          clear c56
                          obtain rfl := Option.some.inj H
                          exact absurd hr.out (by decide)
                      · rw [if_neg c55] at H
                        have c55b0 : (t519 == 0) = false := beq_eq_false_iff_ne.mpr c55
                        have c55b1 : (t519 != 0) = true := bne_iff_ne.mpr c55
                        by_cases c60 : t519 = 5
                        · rw [if_pos c60] at H
                          have c60b0 : (t519 == 5) = true := beq_iff_eq.mpr c60
                          have c60b1 : (t519 != 5) = false := bne_eq_false_iff_eq.mpr c60
                          clear c60
                          by_cases c61 : t516 ≥ 0
                          · rw [if_pos c61] at H
                            have c61b0 : decide (0 ≤ t516) = true := decide_eq_true c61
                            clear c61
                            by_cases c62 : t518 ≥ 0
                            · rw [if_pos c62] at H
                              have c62b0 : decide (0 ≤ t518) = true := decide_eq_true c62
                              clear c62
                              replace H := Option.bind_eq_some_iff.mp H
                              obtain ⟨t525, A630, H⟩ := H
                              replace H : (some t525) = some r := H
                              have A63 := Aside0.mk A630
                              clear A630
                              obtain rfl := Option.some.inj H
                              go_wp2_with (first | (go_at_call 20; (with_reducible refine (galloonlaw01_awake.calls kj34  t525 _ A63.out (Glob.at hg (by repeat (first | (with_reducible first | exact HB.out | apply below_alloc | apply pw_below_drewN | apply below_drew1) | exact HB.out)))).mono ?_); rintro e w64 ⟨rfl, hb⟩; have n0_ := Aside0.mk (below_step (by repeat (first | (with_reducible first | exact HB.out | apply below_alloc | apply pw_below_drewN | apply below_drew1) | exact HB.out)) hb); clear HB; have HB := n0_; clear n0_; (try clear hb); (try clear hb2); (try clear hk); (try clear hi)))
                              go_ret
                              exact ⟨by first | rfl | (simp [errW_none, errW_some] <;> rfl) | (simp [*, errW_none, errW_some] <;> rfl), by repeat (first | (with_reducible first | exact HB.out | apply below_alloc | apply pw_below_drewN | apply below_drew1) | exact HB.out)⟩
                            · rw [if_neg c62] at H
                              have c62b0 : decide (0 ≤ t518) = false := decide_eq_false c62
                              clear c62
                              obtain rfl := Option.some.inj H
                              exact absurd hr.out (by decide)
                          · rw [if_neg c61] at H
                            have c61b0 : decide (0 ≤ t516) = false := decide_eq_false c61
                            clear c61
                            obtain rfl := Option.some.inj H
                            exact absurd hr.out (by decide)
                        · rw [if_neg c60] at H
                          have c60b0 : (t519 == 5) = false := beq_eq_false_iff_ne.mpr c60
                          have c60b1 : (t519 != 5) = true := bne_iff_ne.mpr c60
                          obtain rfl := Option.some.inj H
                          exact absurd hr.out (by decide)
                    · rw [if_neg c54] at H
                      have c54b0 : (t517 == 5) = false := beq_eq_false_iff_ne.mpr c54
                      have c54b1 : (t517 != 5) = true := bne_iff_ne.mpr c54
                      obtain rfl := Option.some.inj H
                      exact absurd hr.out (by decide)
                · replace c42 := Bool.eq_false_iff.mpr c42
                  subst c42
                  have H1 : (if t521 = 0 then (if t518 = 0 then (none) else (if t516 ≤ (wrap64 (Int.tdiv t520 t518)) then ((galloonlaw01_awake.f kj34).bind fun t526 => (some t526)) else (some false))) else (if t521 = 5 then ((galloonlaw01_awake.f kj34).bind fun t527 => (some t527)) else (some false))) = some r := by rw [if_neg (show ¬ (false = true) by decide)] at H; exact H
                  clear H
                  have H := H1
                  clear H1
                  by_cases c65 : t521 = 0
                  · rw [if_pos c65] at H
                    have c65b0 : (t521 == 0) = true := beq_iff_eq.mpr c65
                    have c65b1 : (t521 != 0) = false := bne_eq_false_iff_eq.mpr c65
                    clear c65
                    by_cases c66 : t518 = 0
                    · rw [if_pos c66] at H
                      exact absurd H (by simp)
                    · rw [if_neg c66] at H
                      have c66b0 : (t518 == 0) = false := beq_eq_false_iff_ne.mpr c66
                      have c66b1 : (t518 != 0) = true := bne_iff_ne.mpr c66
                      by_cases c67 : t516 ≤ (wrap64 (Int.tdiv t520 t518))
                      · rw [if_pos c67] at H
                        have c67b0 : decide (t516 ≤ (wrap64 (Int.tdiv t520 t518))) = true := decide_eq_true c67
                        clear c67
                        replace H := Option.bind_eq_some_iff.mp H
                        obtain ⟨t526, A680, H⟩ := H
                        replace H : (some t526) = some r := H
                        have A68 := Aside0.mk A680
                        clear A680
                        obtain rfl := Option.some.inj H
                        go_wp2_with (first | (go_at_call 20; (with_reducible refine (galloonlaw01_awake.calls kj34  t526 _ A68.out (Glob.at hg (by repeat (first | (with_reducible first | exact HB.out | apply below_alloc | apply pw_below_drewN | apply below_drew1) | exact HB.out)))).mono ?_); rintro e w69 ⟨rfl, hb⟩; have n0_ := Aside0.mk (below_step (by repeat (first | (with_reducible first | exact HB.out | apply below_alloc | apply pw_below_drewN | apply below_drew1) | exact HB.out)) hb); clear HB; have HB := n0_; clear n0_; (try clear hb); (try clear hb2); (try clear hk); (try clear hi)))
                        go_ret
                        exact ⟨by first | rfl | (simp [errW_none, errW_some] <;> rfl) | (simp [*, errW_none, errW_some] <;> rfl), by repeat (first | (with_reducible first | exact HB.out | apply below_alloc | apply pw_below_drewN | apply below_drew1) | exact HB.out)⟩
                      · rw [if_neg c67] at H
                        have c67b0 : decide (t516 ≤ (wrap64 (Int.tdiv t520 t518))) = false := decide_eq_false c67
                        clear c67
                        obtain rfl := Option.some.inj H
                        exact absurd hr.out (by decide)
                  · rw [if_neg c65] at H
                    have c65b0 : (t521 == 0) = false := beq_eq_false_iff_ne.mpr c65
                    have c65b1 : (t521 != 0) = true := bne_iff_ne.mpr c65
                    by_cases c70 : t521 = 5
                    · rw [if_pos c70] at H
                      have c70b0 : (t521 == 5) = true := beq_iff_eq.mpr c70
                      have c70b1 : (t521 != 5) = false := bne_eq_false_iff_eq.mpr c70
                      clear c70
                      replace H := Option.bind_eq_some_iff.mp H
                      obtain ⟨t527, A710, H⟩ := H
                      replace H : (some t527) = some r := H
                      have A71 := Aside0.mk A710
                      clear A710
                      obtain rfl := Option.some.inj H
                      go_wp2_with (first | (go_at_call 20; (with_reducible refine (galloonlaw01_awake.calls kj34  t527 _ A71.out (Glob.at hg (by repeat (first | (with_reducible first | exact HB.out | apply below_alloc | apply pw_below_drewN | apply below_drew1) | exact HB.out)))).mono ?_); rintro e w72 ⟨rfl, hb⟩; have n0_ := Aside0.mk (below_step (by repeat (first | (with_reducible first | exact HB.out | apply below_alloc | apply pw_below_drewN | apply below_drew1) | exact HB.out)) hb); clear HB; have HB := n0_; clear n0_; (try clear hb); (try clear hb2); (try clear hk); (try clear hi)))
                      go_ret
                      exact ⟨by first | rfl | (simp [errW_none, errW_some] <;> rfl) | (simp [*, errW_none, errW_some] <;> rfl), by repeat (first | (with_reducible first | exact HB.out | apply below_alloc | apply pw_below_drewN | apply below_drew1) | exact HB.out)⟩
                    · rw [if_neg c70] at H
                      have c70b0 : (t521 == 5) = false := beq_eq_false_iff_ne.mpr c70
                      have c70b1 : (t521 != 5) = true := bne_iff_ne.mpr c70
                      obtain rfl := Option.some.inj H
                      exact absurd hr.out (by decide)
          · rw [if_neg c33] at H
            exact absurd H (by simp)
  · rw [if_neg c7] at H
    exact absurd H (by simp)

/-- THE ONE PURE STATEMENT of galloonlaw01_TrimFewest: yours. -/
def galloonlaw01_TrimFewest.Pure : Prop := ∀ (a0 : ByteArray) (a1 : ByteArray), a0.size ≤ 140737488351232 → a1.size ≤ 140737488351232 → ∃ k, galloonlaw01_TrimFewest.f k a0 a1 = some true
theorem galloonlaw01_TrimFewest.walk (P : galloonlaw01_TrimFewest.Pure) (a0 : ByteArray) (a1 : ByteArray) (w : World) (w0 : a0.size ≤ 140737488351232) (w1 : a1.size ≤ 140737488351232) (hg : Glob w) :
    Calls Try.prog 11 #[.string a0, .string a1] w fun e w' => e = .returned (.bool true) ∧ Below w.heap.size w w' := by
  obtain ⟨k, h⟩ := P a0 a1 w0 w1
  refine (galloonlaw01_TrimFewest.calls k a0 a1 true w h ⟨rfl⟩ hg).mono ?_
  rintro e w' ⟨rfl, hd⟩
  exact ⟨rfl, hd⟩

end Go.Proofs.Ytbdlhgdfnnbjiaa.PY
