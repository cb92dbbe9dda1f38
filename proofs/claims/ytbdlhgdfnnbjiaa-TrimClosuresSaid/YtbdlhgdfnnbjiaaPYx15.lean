-- Made by the session's own driver (wip/tools/p2.py) out of the translation; Lean checks it.
import Derived.Test.YtbdlhgdfnnbjiaaPYx0
import Derived.Test.YtbdlhgdfnnbjiaaPYx1
import Derived.Test.YtbdlhgdfnnbjiaaPYx5
import Derived.Test.YtbdlhgdfnnbjiaaPYx6
import Derived.Test.YtbdlhgdfnnbjiaaPYx10
import Derived.Test.YtbdlhgdfnnbjiaaPYx13
import Derived.Test.YtbdlhgdfnnbjiaaPYx14
namespace Go.Proofs.Ytbdlhgdfnnbjiaa.PY
open Go.RowKit Go.Proofs.YtbdlhgdfnnbjiaaW.PrintWords Go.Proofs.YtbdlhgdfnnbjiaaW.PrintLast Go.Proofs.YtbdlhgdfnnbjiaaW.PrintMore
attribute [local go_sem] max2_int min2_int max_two min_two max_three min_three max_four min_four   -- for this text's walks alone
set_option linter.unusedVariables false
set_option linter.unusedSimpArgs false

/-! ### galloonlaw01_TrimClosures: function 4 -/
def galloonlaw01_TrimClosures.j0 : Nat → ByteArray → ByteArray → Int → ByteArray → Int → Option (Bool)
  | 0, _, _, _, _, _ => none
  | k + 1, x3, x6, x7, x8, x9 => (galloonref01_Tower.f k x3).bind fun bt207 => ((galloonref01_Base.f k x3).bind fun bt209 => (if x6.toList = bt207.1.toList then (if bt207.2 = true then (if x7 = 0 then (if x8.toList = bt209.1.toList then (if bt209.2 = true then (if x9 = 0 then ((galloonlaw01_awake.f k).bind fun t211 => (some t211)) else (some false)) else (if x9 = 6 then ((galloonlaw01_awake.f k).bind fun t212 => (some t212)) else (some false))) else (some false)) else (some false)) else (if x7 = 5 then (if x8.toList = bt209.1.toList then (if bt209.2 = true then (if x9 = 0 then ((galloonlaw01_awake.f k).bind fun t213 => (some t213)) else (some false)) else (if x9 = 6 then ((galloonlaw01_awake.f k).bind fun t214 => (some t214)) else (some false))) else (some false)) else (some false))) else (some false)))
def galloonlaw01_TrimClosures.f (k : Nat) (a0 : ByteArray) : Option (Bool) := (galloonlaw01_short.f a0).bind fun t197 => ((trim_Closure.f k t197).bind fun bt198 => ((trim_Tower.f k t197).bind fun bt200 => ((trim_Base.f k t197).bind fun bt202 => ((galloonref01_Word.f k t197).bind fun t204 => (if t204 = true then ((galloonref01_Closure.f k t197).bind fun t206 => (if (t206.size : Int) > 100 then (if bt198.1.toList = ([] : List UInt8) then (if bt198.2 = 5 then (galloonlaw01_TrimClosures.j0 k t197 bt200.1 bt200.2 bt202.1 bt202.2) else (some false)) else (some false)) else (if bt198.1.toList = t206.toList then (if bt198.2 = 0 then (galloonlaw01_TrimClosures.j0 k t197 bt200.1 bt200.2 bt202.1 bt202.2) else (some false)) else (some false)))) else (if bt198.1.toList = ([] : List UInt8) then (if bt198.2 = 2 then (if bt200.1.toList = ([] : List UInt8) then (if bt200.2 = 2 then (if bt202.1.toList = ([] : List UInt8) then (if bt202.2 = 2 then ((galloonlaw01_awake.f k).bind fun t205 => (some t205)) else (some false)) else (some false)) else (some false)) else (some false)) else (some false)) else (some false)))))))
theorem galloonlaw01_TrimClosures.mono_l : ∀ k, (∀ y0 y1 y2 y3 y4, LeO (galloonlaw01_TrimClosures.j0 k y0 y1 y2 y3 y4) (galloonlaw01_TrimClosures.j0 (k + 1) y0 y1 y2 y3 y4))
  | 0 => fun _ _ _ _ _ r h => by simp [galloonlaw01_TrimClosures.j0] at h
  | k + 1 => by
    have ih0 := galloonlaw01_TrimClosures.mono_l k
    · intro y0 y1 y2 y3 y4
      unfold galloonlaw01_TrimClosures.j0
      repeat' first
      | (with_reducible exact ih0 _ _ _ _ _)
      | (with_reducible exact galloonlaw01_awake.mono _)
      | (with_reducible exact galloonref01_Base.mono _ _)
      | (with_reducible exact galloonref01_Closure.mono _ _)
      | (with_reducible exact galloonref01_Tower.mono _ _)
      | (with_reducible exact galloonref01_Word.mono _ _)
      | (with_reducible exact trim_Base.mono _ _)
      | (with_reducible exact trim_Closure.mono _ _)
      | (with_reducible exact trim_Tower.mono _ _)
      | (with_reducible exact LeO.refl _)
      | (with_reducible exact LeO.none _)
      | (with_reducible refine LeO.ite ?_ ?_)
      | (with_reducible refine LeO.bind ?_ (fun _ => ?_))
      | exact ih0 _ _ _ _ _
      | exact galloonlaw01_awake.mono _
      | exact galloonref01_Base.mono _ _
      | exact galloonref01_Closure.mono _ _
      | exact galloonref01_Tower.mono _ _
      | exact galloonref01_Word.mono _ _
      | exact trim_Base.mono _ _
      | exact trim_Closure.mono _ _
      | exact trim_Tower.mono _ _
      | exact LeO.none _
      | refine LeO.ite ?_ ?_
      | refine LeO.bind ?_ (fun _ => ?_)
theorem galloonlaw01_TrimClosures.mono : ∀ a0 k, LeO (galloonlaw01_TrimClosures.f k a0) (galloonlaw01_TrimClosures.f (k + 1) a0) := by
  intro a0 k
  have ih0 := galloonlaw01_TrimClosures.mono_l k
  unfold galloonlaw01_TrimClosures.f
  repeat' first
      | (with_reducible exact ih0 _ _ _ _ _)
      | (with_reducible exact galloonlaw01_awake.mono _)
      | (with_reducible exact galloonref01_Base.mono _ _)
      | (with_reducible exact galloonref01_Closure.mono _ _)
      | (with_reducible exact galloonref01_Tower.mono _ _)
      | (with_reducible exact galloonref01_Word.mono _ _)
      | (with_reducible exact trim_Base.mono _ _)
      | (with_reducible exact trim_Closure.mono _ _)
      | (with_reducible exact trim_Tower.mono _ _)
      | (with_reducible exact LeO.refl _)
      | (with_reducible exact LeO.none _)
      | (with_reducible refine LeO.ite ?_ ?_)
      | (with_reducible refine LeO.bind ?_ (fun _ => ?_))
      | exact ih0 _ _ _ _ _
      | exact galloonlaw01_awake.mono _
      | exact galloonref01_Base.mono _ _
      | exact galloonref01_Closure.mono _ _
      | exact galloonref01_Tower.mono _ _
      | exact galloonref01_Word.mono _ _
      | exact trim_Base.mono _ _
      | exact trim_Closure.mono _ _
      | exact trim_Tower.mono _ _
      | exact LeO.none _
      | refine LeO.ite ?_ ?_
      | refine LeO.bind ?_ (fun _ => ?_)
set_option maxHeartbeats 8000000 in
set_option maxRecDepth 100000 in
theorem galloonlaw01_TrimClosures.calls (k : Nat) (a0 : ByteArray) (r : Bool) (w : World) (h : galloonlaw01_TrimClosures.f k a0 = some r) (hr : Aside0 (r = true)) (hg : Glob w) :
    Calls Try.prog 4 #[.string a0] w fun e w' => e = .returned (.bool r) ∧ Below w.heap.size w w' := by
  have HB := Aside0.mk (Below.refl w.heap.size w)
  have H : ((galloonlaw01_short.f a0).bind fun t197 => ((trim_Closure.f k t197).bind fun bt198 => ((trim_Tower.f k t197).bind fun bt200 => ((trim_Base.f k t197).bind fun bt202 => ((galloonref01_Word.f k t197).bind fun t204 => (if t204 = true then ((galloonref01_Closure.f k t197).bind fun t206 => (if (t206.size : Int) > 100 then (if bt198.1.toList = ([] : List UInt8) then (if bt198.2 = 5 then (galloonlaw01_TrimClosures.j0 k t197 bt200.1 bt200.2 bt202.1 bt202.2) else (some false)) else (some false)) else (if bt198.1.toList = t206.toList then (if bt198.2 = 0 then (galloonlaw01_TrimClosures.j0 k t197 bt200.1 bt200.2 bt202.1 bt202.2) else (some false)) else (some false)))) else (if bt198.1.toList = ([] : List UInt8) then (if bt198.2 = 2 then (if bt200.1.toList = ([] : List UInt8) then (if bt200.2 = 2 then (if bt202.1.toList = ([] : List UInt8) then (if bt202.2 = 2 then ((galloonlaw01_awake.f k).bind fun t205 => (some t205)) else (some false)) else (some false)) else (some false)) else (some false)) else (some false)) else (some false)))))))) = some r := h
  clear h
  replace H := Option.bind_eq_some_iff.mp H
  obtain ⟨t197, A20, H⟩ := H
  replace H : ((trim_Closure.f k t197).bind fun bt198 => ((trim_Tower.f k t197).bind fun bt200 => ((trim_Base.f k t197).bind fun bt202 => ((galloonref01_Word.f k t197).bind fun t204 => (if t204 = true then ((galloonref01_Closure.f k t197).bind fun t206 => (if (t206.size : Int) > 100 then (if bt198.1.toList = ([] : List UInt8) then (if bt198.2 = 5 then (galloonlaw01_TrimClosures.j0 k t197 bt200.1 bt200.2 bt202.1 bt202.2) else (some false)) else (some false)) else (if bt198.1.toList = t206.toList then (if bt198.2 = 0 then (galloonlaw01_TrimClosures.j0 k t197 bt200.1 bt200.2 bt202.1 bt202.2) else (some false)) else (some false)))) else (if bt198.1.toList = ([] : List UInt8) then (if bt198.2 = 2 then (if bt200.1.toList = ([] : List UInt8) then (if bt200.2 = 2 then (if bt202.1.toList = ([] : List UInt8) then (if bt202.2 = 2 then ((galloonlaw01_awake.f k).bind fun t205 => (some t205)) else (some false)) else (some false)) else (some false)) else (some false)) else (some false)) else (some false))))))) = some r := H
  have A2 := Aside0.mk A20
  clear A20
  replace H := Option.bind_eq_some_iff.mp H
  obtain ⟨⟨t198, t199⟩, A30, H⟩ := H
  replace H : ((trim_Tower.f k t197).bind fun bt200 => ((trim_Base.f k t197).bind fun bt202 => ((galloonref01_Word.f k t197).bind fun t204 => (if t204 = true then ((galloonref01_Closure.f k t197).bind fun t206 => (if (t206.size : Int) > 100 then (if t198.toList = ([] : List UInt8) then (if t199 = 5 then (galloonlaw01_TrimClosures.j0 k t197 bt200.1 bt200.2 bt202.1 bt202.2) else (some false)) else (some false)) else (if t198.toList = t206.toList then (if t199 = 0 then (galloonlaw01_TrimClosures.j0 k t197 bt200.1 bt200.2 bt202.1 bt202.2) else (some false)) else (some false)))) else (if t198.toList = ([] : List UInt8) then (if t199 = 2 then (if bt200.1.toList = ([] : List UInt8) then (if bt200.2 = 2 then (if bt202.1.toList = ([] : List UInt8) then (if bt202.2 = 2 then ((galloonlaw01_awake.f k).bind fun t205 => (some t205)) else (some false)) else (some false)) else (some false)) else (some false)) else (some false)) else (some false)))))) = some r := H
  have A3 := Aside0.mk A30
  clear A30
  replace H := Option.bind_eq_some_iff.mp H
  obtain ⟨⟨t200, t201⟩, A40, H⟩ := H
  replace H : ((trim_Base.f k t197).bind fun bt202 => ((galloonref01_Word.f k t197).bind fun t204 => (if t204 = true then ((galloonref01_Closure.f k t197).bind fun t206 => (if (t206.size : Int) > 100 then (if t198.toList = ([] : List UInt8) then (if t199 = 5 then (galloonlaw01_TrimClosures.j0 k t197 t200 t201 bt202.1 bt202.2) else (some false)) else (some false)) else (if t198.toList = t206.toList then (if t199 = 0 then (galloonlaw01_TrimClosures.j0 k t197 t200 t201 bt202.1 bt202.2) else (some false)) else (some false)))) else (if t198.toList = ([] : List UInt8) then (if t199 = 2 then (if t200.toList = ([] : List UInt8) then (if t201 = 2 then (if bt202.1.toList = ([] : List UInt8) then (if bt202.2 = 2 then ((galloonlaw01_awake.f k).bind fun t205 => (some t205)) else (some false)) else (some false)) else (some false)) else (some false)) else (some false)) else (some false))))) = some r := H
  have A4 := Aside0.mk A40
  clear A40
  replace H := Option.bind_eq_some_iff.mp H
  obtain ⟨⟨t202, t203⟩, A50, H⟩ := H
  replace H : ((galloonref01_Word.f k t197).bind fun t204 => (if t204 = true then ((galloonref01_Closure.f k t197).bind fun t206 => (if (t206.size : Int) > 100 then (if t198.toList = ([] : List UInt8) then (if t199 = 5 then (galloonlaw01_TrimClosures.j0 k t197 t200 t201 t202 t203) else (some false)) else (some false)) else (if t198.toList = t206.toList then (if t199 = 0 then (galloonlaw01_TrimClosures.j0 k t197 t200 t201 t202 t203) else (some false)) else (some false)))) else (if t198.toList = ([] : List UInt8) then (if t199 = 2 then (if t200.toList = ([] : List UInt8) then (if t201 = 2 then (if t202.toList = ([] : List UInt8) then (if t203 = 2 then ((galloonlaw01_awake.f k).bind fun t205 => (some t205)) else (some false)) else (some false)) else (some false)) else (some false)) else (some false)) else (some false)))) = some r := H
  have A5 := Aside0.mk A50
  clear A50
  replace H := Option.bind_eq_some_iff.mp H
  obtain ⟨t204, A60, H⟩ := H
  replace H : (if t204 = true then ((galloonref01_Closure.f k t197).bind fun t206 => (if (t206.size : Int) > 100 then (if t198.toList = ([] : List UInt8) then (if t199 = 5 then (galloonlaw01_TrimClosures.j0 k t197 t200 t201 t202 t203) else (some false)) else (some false)) else (if t198.toList = t206.toList then (if t199 = 0 then (galloonlaw01_TrimClosures.j0 k t197 t200 t201 t202 t203) else (some false)) else (some false)))) else (if t198.toList = ([] : List UInt8) then (if t199 = 2 then (if t200.toList = ([] : List UInt8) then (if t201 = 2 then (if t202.toList = ([] : List UInt8) then (if t203 = 2 then ((galloonlaw01_awake.f k).bind fun t205 => (some t205)) else (some false)) else (some false)) else (some false)) else (some false)) else (some false)) else (some false))) = some r := H
  have A6 := Aside0.mk A60
  clear A60
  by_cases c7 : t204 = true
  · subst c7
    have H1 : ((galloonref01_Closure.f k t197).bind fun t206 => (if (t206.size : Int) > 100 then (if t198.toList = ([] : List UInt8) then (if t199 = 5 then (galloonlaw01_TrimClosures.j0 k t197 t200 t201 t202 t203) else (some false)) else (some false)) else (if t198.toList = t206.toList then (if t199 = 0 then (galloonlaw01_TrimClosures.j0 k t197 t200 t201 t202 t203) else (some false)) else (some false)))) = some r := by rw [if_pos rfl] at H; exact H
    clear H
    have H := H1
    clear H1
    replace H := Option.bind_eq_some_iff.mp H
    obtain ⟨t206, A80, H⟩ := H
    replace H : (if (t206.size : Int) > 100 then (if t198.toList = ([] : List UInt8) then (if t199 = 5 then (galloonlaw01_TrimClosures.j0 k t197 t200 t201 t202 t203) else (some false)) else (some false)) else (if t198.toList = t206.toList then (if t199 = 0 then (galloonlaw01_TrimClosures.j0 k t197 t200 t201 t202 t203) else (some false)) else (some false))) = some r := H
    have A8 := Aside0.mk A80
    clear A80
    have HC9 := Aside0.mk H
    clear H
    go_enter Try.func4, Try.ntmps4
    go_upto_if 64 with (first | ((with_reducible refine gate_callee (f := 16) rfl ?_); refine goesL_ (some 16) rfl rfl Try.func16 (by kernel_rfl) rfl #[.string a0] rfl (by (try simp only [List.map_toArray, List.map_cons, List.map_nil]); first | done | rfl | (simp only [List.length_drop, List.length_take]; rfl)) ?_; (with_reducible refine (galloonlaw01_short.calls a0 t197 _ A2.out).mono ?_); rintro e w10 ⟨rfl, hb⟩; refine ⟨_, rfl, ?_⟩; have n0_ := Aside0.mk (below_step (by repeat (first | (with_reducible first | exact HB.out | apply below_alloc | apply pw_below_drewN | apply below_drew1) | exact HB.out)) hb); clear HB; have HB := n0_; clear n0_; (try clear hb); (try clear hb2); (try clear hk); (try clear hi)) | ((with_reducible refine gate_callee (f := 24) rfl ?_); refine goesL_ (some 19) rfl rfl Try.func24 (by kernel_rfl) rfl #[.string t197] rfl (by (try simp only [List.map_toArray, List.map_cons, List.map_nil]); first | done | rfl | (simp only [List.length_drop, List.length_take]; rfl)) ?_; (with_reducible refine (trim_Closure.calls k t197 t198 t199 _ A3.out).mono ?_); rintro e w11 ⟨rfl, hb⟩; refine ⟨_, rfl, ?_⟩; have n0_ := Aside0.mk (below_step (by repeat (first | (with_reducible first | exact HB.out | apply below_alloc | apply pw_below_drewN | apply below_drew1) | exact HB.out)) hb); clear HB; have HB := n0_; clear n0_; (try clear hb); (try clear hb2); (try clear hk); (try clear hi)) | ((with_reducible refine gate_callee (f := 25) rfl ?_); refine goesL_ (some 24) rfl rfl Try.func25 (by kernel_rfl) rfl #[.string t197] rfl (by (try simp only [List.map_toArray, List.map_cons, List.map_nil]); first | done | rfl | (simp only [List.length_drop, List.length_take]; rfl)) ?_; (with_reducible refine (trim_Tower.calls k t197 t200 t201 _ A4.out).mono ?_); rintro e w12 ⟨rfl, hb⟩; refine ⟨_, rfl, ?_⟩; have n0_ := Aside0.mk (below_step (by repeat (first | (with_reducible first | exact HB.out | apply below_alloc | apply pw_below_drewN | apply below_drew1) | exact HB.out)) hb); clear HB; have HB := n0_; clear n0_; (try clear hb); (try clear hb2); (try clear hk); (try clear hi)) | ((with_reducible refine gate_callee (f := 26) rfl ?_); refine goesL_ (some 29) rfl rfl Try.func26 (by kernel_rfl) rfl #[.string t197] rfl (by (try simp only [List.map_toArray, List.map_cons, List.map_nil]); first | done | rfl | (simp only [List.length_drop, List.length_take]; rfl)) ?_; (with_reducible refine (trim_Base.calls k t197 t202 t203 _ A5.out).mono ?_); rintro e w13 ⟨rfl, hb⟩; refine ⟨_, rfl, ?_⟩; have n0_ := Aside0.mk (below_step (by repeat (first | (with_reducible first | exact HB.out | apply below_alloc | apply pw_below_drewN | apply below_drew1) | exact HB.out)) hb); clear HB; have HB := n0_; clear n0_; (try clear hb); (try clear hb2); (try clear hk); (try clear hi)) | ((with_reducible refine gate_callee (f := 19) rfl ?_); refine goesL_ (some 33) rfl rfl Try.func19 (by kernel_rfl) rfl #[.string t197] rfl (by (try simp only [List.map_toArray, List.map_cons, List.map_nil]); first | done | rfl | (simp only [List.length_drop, List.length_take]; rfl)) ?_; (with_reducible refine (galloonref01_Word.calls k t197 true _ A6.out).mono ?_); rintro e w' ⟨rfl, ⟨nd, rfl⟩⟩; refine ⟨_, rfl, ?_⟩) | ((with_reducible refine gate_callee (f := 27) rfl ?_); refine goesL_ (some 61) rfl rfl Try.func27 (by kernel_rfl) rfl #[.string t197] rfl (by (try simp only [List.map_toArray, List.map_cons, List.map_nil]); first | done | rfl | (simp only [List.length_drop, List.length_take]; rfl)) ?_; (with_reducible refine (galloonref01_Closure.calls k t197 t206 _ A8.out).mono ?_); rintro e w14 ⟨rfl, hb⟩; refine ⟨_, rfl, ?_⟩; have n0_ := Aside0.mk (below_step (by repeat (first | (with_reducible first | exact HB.out | apply below_alloc | apply pw_below_drewN | apply below_drew1) | exact HB.out)) hb); clear HB; have HB := n0_; clear n0_; (try clear hb); (try clear hb2); (try clear hk); (try clear hi)))
    (try simp only [Act.put, List.setIfInBounds_toArray, List.set_cons_zero, List.set_cons_succ])
    go_cut [] (fun wc => ∃ (kq : Nat), Aside0 (galloonlaw01_TrimClosures.j0 kq t197 t200 t201 t202 t203 = some r) ∧ Aside0 (kq ≤ k) ∧ Aside0 (Below w.heap.size w wc))
    case first =>
      have H := HC9.out
      clear HC9
      by_cases c15 : (t206.size : Int) > 100
      · rw [if_pos c15] at H
        have c15b0 : decide (100 < (t206.size : Int)) = true := decide_eq_true c15
        have c15b1 : decide (100 < t206.size) = true := decide_eq_true (by omega)
        clear c15
        (first | rw [c15b0] | (simp only [i64_w, i32_w]; rw [c15b0]) | skip)
        by_cases c16 : t198.toList = ([] : List UInt8)
        · rw [if_pos c16] at H
          have c16b0 : (t198.toList == ([] : List UInt8)) = true := beq_iff_eq.mpr c16
          have c16b1 : (t198.toList != ([] : List UInt8)) = false := bne_eq_false_iff_eq.mpr c16
          clear c16
          by_cases c17 : t199 = 5
          · rw [if_pos c17] at H
            have c17b0 : (t199 == 5) = true := beq_iff_eq.mpr c17
            have c17b1 : (t199 != 5) = false := bne_eq_false_iff_eq.mpr c17
            clear c17
            have H' := Aside0.mk H
            clear H
            go_wp2
            go_meet
            case rel => exact ⟨_, H', ⟨by first | omega | exact Nat.le_refl _⟩, ⟨by repeat (first | (with_reducible first | exact HB.out | apply below_alloc | apply pw_below_drewN | apply below_drew1) | exact HB.out)⟩⟩
          · rw [if_neg c17] at H
            have c17b0 : (t199 == 5) = false := beq_eq_false_iff_ne.mpr c17
            have c17b1 : (t199 != 5) = true := bne_iff_ne.mpr c17
            obtain rfl := Option.some.inj H
            exact absurd hr.out (by decide)
        · rw [if_neg c16] at H
          have c16b0 : (t198.toList == ([] : List UInt8)) = false := beq_eq_false_iff_ne.mpr c16
          have c16b1 : (t198.toList != ([] : List UInt8)) = true := bne_iff_ne.mpr c16
          obtain rfl := Option.some.inj H
          exact absurd hr.out (by decide)
      · rw [if_neg c15] at H
        have c15b0 : decide (100 < (t206.size : Int)) = false := decide_eq_false c15
        have c15b1 : decide (100 < t206.size) = false := decide_eq_false (by omega)
        clear c15
        (first | rw [c15b0] | (simp only [i64_w, i32_w]; rw [c15b0]) | skip)
        by_cases c18 : t198.toList = t206.toList
        · rw [if_pos c18] at H
          have c18b0 : (t198.toList == t206.toList) = true := beq_iff_eq.mpr c18
          have c18b1 : (t198.toList != t206.toList) = false := bne_eq_false_iff_eq.mpr c18
          clear c18
          by_cases c19 : t199 = 0
          · rw [if_pos c19] at H
            have c19b0 : (t199 == 0) = true := beq_iff_eq.mpr c19
            have c19b1 : (t199 != 0) = false := bne_eq_false_iff_eq.mpr c19
            clear c19
            have H' := Aside0.mk H
            clear H
            go_wp2
            go_meet
            case rel => exact ⟨_, H', ⟨by first | omega | exact Nat.le_refl _⟩, ⟨by repeat (first | (with_reducible first | exact HB.out | apply below_alloc | apply pw_below_drewN | apply below_drew1) | exact HB.out)⟩⟩
          · rw [if_neg c19] at H
            have c19b0 : (t199 == 0) = false := beq_eq_false_iff_ne.mpr c19
            have c19b1 : (t199 != 0) = true := bne_iff_ne.mpr c19
            obtain rfl := Option.some.inj H
            exact absurd hr.out (by decide)
        · rw [if_neg c18] at H
          have c18b0 : (t198.toList == t206.toList) = false := beq_eq_false_iff_ne.mpr c18
          have c18b1 : (t198.toList != t206.toList) = true := bne_iff_ne.mpr c18
          obtain rfl := Option.some.inj H
          exact absurd hr.out (by decide)
    case rest =>
      clear HC9
      try clear c1
      try clear c2
      try clear p2
      try clear c4
      try clear c7
      try clear c15
      try clear c15b0
      try clear c15b1
      try clear c16
      try clear c16b0
      try clear c16b1
      try clear c17
      try clear c17b0
      try clear c17b1
      try clear c18
      try clear c18b0
      try clear c18b1
      try clear c19
      try clear c19b0
      try clear c19b1
      obtain ⟨kq, HA, HJ8, HB⟩ := hcut
      cases kq with
      | zero => exact absurd HA.out (by simp [galloonlaw01_TrimClosures.j0])
      | succ kj8 =>
        have H := HA.out
        clear HA
        simp only [galloonlaw01_TrimClosures.j0] at H
        replace H := Option.bind_eq_some_iff.mp H
        obtain ⟨⟨t207, t208⟩, A200, H⟩ := H
        replace H : ((galloonref01_Base.f kj8 t197).bind fun bt209 => (if t200.toList = t207.toList then (if t208 = true then (if t201 = 0 then (if t202.toList = bt209.1.toList then (if bt209.2 = true then (if t203 = 0 then ((galloonlaw01_awake.f kj8).bind fun t211 => (some t211)) else (some false)) else (if t203 = 6 then ((galloonlaw01_awake.f kj8).bind fun t212 => (some t212)) else (some false))) else (some false)) else (some false)) else (if t201 = 5 then (if t202.toList = bt209.1.toList then (if bt209.2 = true then (if t203 = 0 then ((galloonlaw01_awake.f kj8).bind fun t213 => (some t213)) else (some false)) else (if t203 = 6 then ((galloonlaw01_awake.f kj8).bind fun t214 => (some t214)) else (some false))) else (some false)) else (some false))) else (some false))) = some r := H
        have A20 := Aside0.mk A200
        clear A200
        replace H := Option.bind_eq_some_iff.mp H
        obtain ⟨⟨t209, t210⟩, A210, H⟩ := H
        replace H : (if t200.toList = t207.toList then (if t208 = true then (if t201 = 0 then (if t202.toList = t209.toList then (if t210 = true then (if t203 = 0 then ((galloonlaw01_awake.f kj8).bind fun t211 => (some t211)) else (some false)) else (if t203 = 6 then ((galloonlaw01_awake.f kj8).bind fun t212 => (some t212)) else (some false))) else (some false)) else (some false)) else (if t201 = 5 then (if t202.toList = t209.toList then (if t210 = true then (if t203 = 0 then ((galloonlaw01_awake.f kj8).bind fun t213 => (some t213)) else (some false)) else (if t203 = 6 then ((galloonlaw01_awake.f kj8).bind fun t214 => (some t214)) else (some false))) else (some false)) else (some false))) else (some false)) = some r := H
        have A21 := Aside0.mk A210
        clear A210
        by_cases c22 : t200.toList = t207.toList
        · rw [if_pos c22] at H
          have c22b0 : (t200.toList == t207.toList) = true := beq_iff_eq.mpr c22
          have c22b1 : (t200.toList != t207.toList) = false := bne_eq_false_iff_eq.mpr c22
          clear c22
          by_cases c23 : t208 = true
          · subst c23
            have H1 : (if t201 = 0 then (if t202.toList = t209.toList then (if t210 = true then (if t203 = 0 then ((galloonlaw01_awake.f kj8).bind fun t211 => (some t211)) else (some false)) else (if t203 = 6 then ((galloonlaw01_awake.f kj8).bind fun t212 => (some t212)) else (some false))) else (some false)) else (some false)) = some r := by rw [if_pos rfl] at H; exact H
            clear H
            have H := H1
            clear H1
            by_cases c24 : t201 = 0
            · rw [if_pos c24] at H
              have c24b0 : (t201 == 0) = true := beq_iff_eq.mpr c24
              have c24b1 : (t201 != 0) = false := bne_eq_false_iff_eq.mpr c24
              clear c24
              by_cases c25 : t202.toList = t209.toList
              · rw [if_pos c25] at H
                have c25b0 : (t202.toList == t209.toList) = true := beq_iff_eq.mpr c25
                have c25b1 : (t202.toList != t209.toList) = false := bne_eq_false_iff_eq.mpr c25
                clear c25
                by_cases c26 : t210 = true
                · subst c26
                  have H1 : (if t203 = 0 then ((galloonlaw01_awake.f kj8).bind fun t211 => (some t211)) else (some false)) = some r := by rw [if_pos rfl] at H; exact H
                  clear H
                  have H := H1
                  clear H1
                  by_cases c27 : t203 = 0
                  · rw [if_pos c27] at H
                    have c27b0 : (t203 == 0) = true := beq_iff_eq.mpr c27
                    have c27b1 : (t203 != 0) = false := bne_eq_false_iff_eq.mpr c27
                    clear c27
                    replace H := Option.bind_eq_some_iff.mp H
                    obtain ⟨t211, A280, H⟩ := H
                    replace H : (some t211) = some r := H
                    have A28 := Aside0.mk A280
                    clear A280
                    obtain rfl := Option.some.inj H
                    go_wp2_with (first | ((with_reducible refine gate_callee (f := 28) rfl ?_); refine goesL_ (some 80) rfl rfl Try.func28 (by kernel_rfl) rfl #[.string t197] rfl (by (try simp only [List.map_toArray, List.map_cons, List.map_nil]); first | done | rfl | (simp only [List.length_drop, List.length_take]; rfl)) ?_; (with_reducible refine (galloonref01_Tower.calls kj8 t197 t207 true _ A20.out).mono ?_); rintro e w29 ⟨rfl, hb⟩; refine ⟨_, rfl, ?_⟩; have n0_ := Aside0.mk (below_step (by repeat (first | (with_reducible first | exact HB.out | apply below_alloc | apply pw_below_drewN | apply below_drew1) | exact HB.out)) hb); clear HB; have HB := n0_; clear n0_; (try clear hb); (try clear hb2); (try clear hk); (try clear hi)) | ((with_reducible refine gate_callee (f := 29) rfl ?_); refine goesL_ (some 85) rfl rfl Try.func29 (by kernel_rfl) rfl #[.string t197] rfl (by (try simp only [List.map_toArray, List.map_cons, List.map_nil]); first | done | rfl | (simp only [List.length_drop, List.length_take]; rfl)) ?_; (with_reducible refine (galloonref01_Base.calls kj8 t197 t209 true _ A21.out).mono ?_); rintro e w30 ⟨rfl, hb⟩; refine ⟨_, rfl, ?_⟩; have n0_ := Aside0.mk (below_step (by repeat (first | (with_reducible first | exact HB.out | apply below_alloc | apply pw_below_drewN | apply below_drew1) | exact HB.out)) hb); clear HB; have HB := n0_; clear n0_; (try clear hb); (try clear hb2); (try clear hk); (try clear hi)) | (go_at_call 20; (with_reducible refine (galloonlaw01_awake.calls kj8  t211 _ A28.out (Glob.at hg (by repeat (first | (with_reducible first | exact HB.out | apply below_alloc | apply pw_below_drewN | apply below_drew1) | exact HB.out)))).mono ?_); rintro e w31 ⟨rfl, hb⟩; have n0_ := Aside0.mk (below_step (by repeat (first | (with_reducible first | exact HB.out | apply below_alloc | apply pw_below_drewN | apply below_drew1) | exact HB.out)) hb); clear HB; have HB := n0_; clear n0_; (try clear hb); (try clear hb2); (try clear hk); (try clear hi)))
                    go_ret
                    exact ⟨by first | rfl | (simp [errW_none, errW_some] <;> rfl) | (simp [*, errW_none, errW_some] <;> rfl), by repeat (first | (with_reducible first | exact HB.out | apply below_alloc | apply pw_below_drewN | apply below_drew1) | exact HB.out)⟩
                  · rw [if_neg c27] at H
                    have c27b0 : (t203 == 0) = false := beq_eq_false_iff_ne.mpr c27
                    have c27b1 : (t203 != 0) = true := bne_iff_ne.mpr c27
                    obtain rfl := Option.some.inj H
                    exact absurd hr.out (by decide)
                · replace c26 := Bool.eq_false_iff.mpr c26
                  subst c26
                  have H1 : (if t203 = 6 then ((galloonlaw01_awake.f kj8).bind fun t212 => (some t212)) else (some false)) = some r := by rw [if_neg (show ¬ (false = true) by decide)] at H; exact H
                  clear H
                  have H := H1
                  clear H1
                  by_cases c32 : t203 = 6
                  · rw [if_pos c32] at H
                    have c32b0 : (t203 == 6) = true := beq_iff_eq.mpr c32
                    have c32b1 : (t203 != 6) = false := bne_eq_false_iff_eq.mpr c32
                    clear c32
                    replace H := Option.bind_eq_some_iff.mp H
                    obtain ⟨t212, A330, H⟩ := H
                    replace H : (some t212) = some r := H
                    have A33 := Aside0.mk A330
                    clear A330
                    obtain rfl := Option.some.inj H
                    go_wp2_with (first | ((with_reducible refine gate_callee (f := 28) rfl ?_); refine goesL_ (some 80) rfl rfl Try.func28 (by kernel_rfl) rfl #[.string t197] rfl (by (try simp only [List.map_toArray, List.map_cons, List.map_nil]); first | done | rfl | (simp only [List.length_drop, List.length_take]; rfl)) ?_; (with_reducible refine (galloonref01_Tower.calls kj8 t197 t207 true _ A20.out).mono ?_); rintro e w34 ⟨rfl, hb⟩; refine ⟨_, rfl, ?_⟩; have n0_ := Aside0.mk (below_step (by repeat (first | (with_reducible first | exact HB.out | apply below_alloc | apply pw_below_drewN | apply below_drew1) | exact HB.out)) hb); clear HB; have HB := n0_; clear n0_; (try clear hb); (try clear hb2); (try clear hk); (try clear hi)) | ((with_reducible refine gate_callee (f := 29) rfl ?_); refine goesL_ (some 85) rfl rfl Try.func29 (by kernel_rfl) rfl #[.string t197] rfl (by (try simp only [List.map_toArray, List.map_cons, List.map_nil]); first | done | rfl | (simp only [List.length_drop, List.length_take]; rfl)) ?_; (with_reducible refine (galloonref01_Base.calls kj8 t197 t209 false _ A21.out).mono ?_); rintro e w35 ⟨rfl, hb⟩; refine ⟨_, rfl, ?_⟩; have n0_ := Aside0.mk (below_step (by repeat (first | (with_reducible first | exact HB.out | apply below_alloc | apply pw_below_drewN | apply below_drew1) | exact HB.out)) hb); clear HB; have HB := n0_; clear n0_; (try clear hb); (try clear hb2); (try clear hk); (try clear hi)) | (go_at_call 20; (with_reducible refine (galloonlaw01_awake.calls kj8  t212 _ A33.out (Glob.at hg (by repeat (first | (with_reducible first | exact HB.out | apply below_alloc | apply pw_below_drewN | apply below_drew1) | exact HB.out)))).mono ?_); rintro e w36 ⟨rfl, hb⟩; have n0_ := Aside0.mk (below_step (by repeat (first | (with_reducible first | exact HB.out | apply below_alloc | apply pw_below_drewN | apply below_drew1) | exact HB.out)) hb); clear HB; have HB := n0_; clear n0_; (try clear hb); (try clear hb2); (try clear hk); (try clear hi)))
                    go_ret
                    exact ⟨by first | rfl | (simp [errW_none, errW_some] <;> rfl) | (simp [*, errW_none, errW_some] <;> rfl), by repeat (first | (with_reducible first | exact HB.out | apply below_alloc | apply pw_below_drewN | apply below_drew1) | exact HB.out)⟩
                  · rw [if_neg c32] at H
                    have c32b0 : (t203 == 6) = false := beq_eq_false_iff_ne.mpr c32
                    have c32b1 : (t203 != 6) = true := bne_iff_ne.mpr c32
                    obtain rfl := Option.some.inj H
                    exact absurd hr.out (by decide)
              · rw [if_neg c25] at H
                have c25b0 : (t202.toList == t209.toList) = false := beq_eq_false_iff_ne.mpr c25
                have c25b1 : (t202.toList != t209.toList) = true := bne_iff_ne.mpr c25
                obtain rfl := Option.some.inj H
                exact absurd hr.out (by decide)
            · rw [if_neg c24] at H
              have c24b0 : (t201 == 0) = false := beq_eq_false_iff_ne.mpr c24
              have c24b1 : (t201 != 0) = true := bne_iff_ne.mpr c24
              obtain rfl := Option.some.inj H
              exact absurd hr.out (by decide)
          · replace c23 := Bool.eq_false_iff.mpr c23
            subst c23
            have H1 : (if t201 = 5 then (if t202.toList = t209.toList then (if t210 = true then (if t203 = 0 then ((galloonlaw01_awake.f kj8).bind fun t213 => (some t213)) else (some false)) else (if t203 = 6 then ((galloonlaw01_awake.f kj8).bind fun t214 => (some t214)) else (some false))) else (some false)) else (some false)) = some r := by rw [if_neg (show ¬ (false = true) by decide)] at H; exact H
            clear H
            have H := H1
            clear H1
            by_cases c37 : t201 = 5
            · rw [if_pos c37] at H
              have c37b0 : (t201 == 5) = true := beq_iff_eq.mpr c37
              have c37b1 : (t201 != 5) = false := bne_eq_false_iff_eq.mpr c37
              clear c37
              by_cases c38 : t202.toList = t209.toList
              · rw [if_pos c38] at H
                have c38b0 : (t202.toList == t209.toList) = true := beq_iff_eq.mpr c38
                have c38b1 : (t202.toList != t209.toList) = false := bne_eq_false_iff_eq.mpr c38
                clear c38
                by_cases c39 : t210 = true
                · subst c39
                  have H1 : (if t203 = 0 then ((galloonlaw01_awake.f kj8).bind fun t213 => (some t213)) else (some false)) = some r := by rw [if_pos rfl] at H; exact H
                  clear H
                  have H := H1
                  clear H1
                  by_cases c40 : t203 = 0
                  · rw [if_pos c40] at H
                    have c40b0 : (t203 == 0) = true := beq_iff_eq.mpr c40
                    have c40b1 : (t203 != 0) = false := bne_eq_false_iff_eq.mpr c40
                    clear c40
                    replace H := Option.bind_eq_some_iff.mp H
                    obtain ⟨t213, A410, H⟩ := H
                    replace H : (some t213) = some r := H
                    have A41 := Aside0.mk A410
                    clear A410
                    obtain rfl := Option.some.inj H
                    go_wp2_with (first | ((with_reducible refine gate_callee (f := 28) rfl ?_); refine goesL_ (some 80) rfl rfl Try.func28 (by kernel_rfl) rfl #[.string t197] rfl (by (try simp only [List.map_toArray, List.map_cons, List.map_nil]); first | done | rfl | (simp only [List.length_drop, List.length_take]; rfl)) ?_; (with_reducible refine (galloonref01_Tower.calls kj8 t197 t207 false _ A20.out).mono ?_); rintro e w42 ⟨rfl, hb⟩; refine ⟨_, rfl, ?_⟩; have n0_ := Aside0.mk (below_step (by repeat (first | (with_reducible first | exact HB.out | apply below_alloc | apply pw_below_drewN | apply below_drew1) | exact HB.out)) hb); clear HB; have HB := n0_; clear n0_; (try clear hb); (try clear hb2); (try clear hk); (try clear hi)) | ((with_reducible refine gate_callee (f := 29) rfl ?_); refine goesL_ (some 85) rfl rfl Try.func29 (by kernel_rfl) rfl #[.string t197] rfl (by (try simp only [List.map_toArray, List.map_cons, List.map_nil]); first | done | rfl | (simp only [List.length_drop, List.length_take]; rfl)) ?_; (with_reducible refine (galloonref01_Base.calls kj8 t197 t209 true _ A21.out).mono ?_); rintro e w43 ⟨rfl, hb⟩; refine ⟨_, rfl, ?_⟩; have n0_ := Aside0.mk (below_step (by repeat (first | (with_reducible first | exact HB.out | apply below_alloc | apply pw_below_drewN | apply below_drew1) | exact HB.out)) hb); clear HB; have HB := n0_; clear n0_; (try clear hb); (try clear hb2); (try clear hk); (try clear hi)) | (go_at_call 20; (with_reducible refine (galloonlaw01_awake.calls kj8  t213 _ A41.out (Glob.at hg (by repeat (first | (with_reducible first | exact HB.out | apply below_alloc | apply pw_below_drewN | apply below_drew1) | exact HB.out)))).mono ?_); rintro e w44 ⟨rfl, hb⟩; have n0_ := Aside0.mk (below_step (by repeat (first | (with_reducible first | exact HB.out | apply below_alloc | apply pw_below_drewN | apply below_drew1) | exact HB.out)) hb); clear HB; have HB := n0_; clear n0_; (try clear hb); (try clear hb2); (try clear hk); (try clear hi)))
                    go_ret
                    exact ⟨by first | rfl | (simp [errW_none, errW_some] <;> rfl) | (simp [*, errW_none, errW_some] <;> rfl), by repeat (first | (with_reducible first | exact HB.out | apply below_alloc | apply pw_below_drewN | apply below_drew1) | exact HB.out)⟩
                  · rw [if_neg c40] at H
                    have c40b0 : (t203 == 0) = false := beq_eq_false_iff_ne.mpr c40
                    have c40b1 : (t203 != 0) = true := bne_iff_ne.mpr c40
                    obtain rfl := Option.some.inj H
                    exact absurd hr.out (by decide)
                · replace c39 := Bool.eq_false_iff.mpr c39
                  subst c39
                  have H1 : (if t203 = 6 then ((galloonlaw01_awake.f kj8).bind fun t214 => (some t214)) else (some false)) = some r := by rw [if_neg (show ¬ (false = true) by decide)] at H; exact H
                  clear H
                  have H := H1
                  clear H1
                  by_cases c45 : t203 = 6
                  · rw [if_pos c45] at H
                    have c45b0 : (t203 == 6) = true := beq_iff_eq.mpr c45
                    have c45b1 : (t203 != 6) = false := bne_eq_false_iff_eq.mpr c45
                    clear c45
                    replace H := Option.bind_eq_some_iff.mp H
                    obtain ⟨t214, A460, H⟩ := H
                    replace H : (some t214) = some r := H
                    have A46 := Aside0.mk A460
                    clear A460
                    obtain rfl := Option.some.inj H
                    go_wp2_with (first | ((with_reducible refine gate_callee (f := 28) rfl ?_); refine goesL_ (some 80) rfl rfl Try.func28 (by kernel_rfl) rfl #[.string t197] rfl (by (try simp only [List.map_toArray, List.map_cons, List.map_nil]); first | done | rfl | (simp only [List.length_drop, List.length_take]; rfl)) ?_; (with_reducible refine (galloonref01_Tower.calls kj8 t197 t207 false _ A20.out).mono ?_); rintro e w47 ⟨rfl, hb⟩; refine ⟨_, rfl, ?_⟩; have n0_ := Aside0.mk (below_step (by repeat (first | (with_reducible first | exact HB.out | apply below_alloc | apply pw_below_drewN | apply below_drew1) | exact HB.out)) hb); clear HB; have HB := n0_; clear n0_; (try clear hb); (try clear hb2); (try clear hk); (try clear hi)) | ((with_reducible refine gate_callee (f := 29) rfl ?_); refine goesL_ (some 85) rfl rfl Try.func29 (by kernel_rfl) rfl #[.string t197] rfl (by (try simp only [List.map_toArray, List.map_cons, List.map_nil]); first | done | rfl | (simp only [List.length_drop, List.length_take]; rfl)) ?_; (with_reducible refine (galloonref01_Base.calls kj8 t197 t209 false _ A21.out).mono ?_); rintro e w48 ⟨rfl, hb⟩; refine ⟨_, rfl, ?_⟩; have n0_ := Aside0.mk (below_step (by repeat (first | (with_reducible first | exact HB.out | apply below_alloc | apply pw_below_drewN | apply below_drew1) | exact HB.out)) hb); clear HB; have HB := n0_; clear n0_; (try clear hb); (try clear hb2); (try clear hk); (try clear hi)) | (go_at_call 20; (with_reducible refine (galloonlaw01_awake.calls kj8  t214 _ A46.out (Glob.at hg (by repeat (first | (with_reducible first | exact HB.out | apply below_alloc | apply pw_below_drewN | apply below_drew1) | exact HB.out)))).mono ?_); rintro e w49 ⟨rfl, hb⟩; have n0_ := Aside0.mk (below_step (by repeat (first | (with_reducible first | exact HB.out | apply below_alloc | apply pw_below_drewN | apply below_drew1) | exact HB.out)) hb); clear HB; have HB := n0_; clear n0_; (try clear hb); (try clear hb2); (try clear hk); (try clear hi)))
                    go_ret
                    exact ⟨by first | rfl | (simp [errW_none, errW_some] <;> rfl) | (simp [*, errW_none, errW_some] <;> rfl), by repeat (first | (with_reducible first | exact HB.out | apply below_alloc | apply pw_below_drewN | apply below_drew1) | exact HB.out)⟩
                  · rw [if_neg c45] at H
                    have c45b0 : (t203 == 6) = false := beq_eq_false_iff_ne.mpr c45
                    have c45b1 : (t203 != 6) = true := bne_iff_ne.mpr c45
                    obtain rfl := Option.some.inj H
                    exact absurd hr.out (by decide)
              · rw [if_neg c38] at H
                have c38b0 : (t202.toList == t209.toList) = false := beq_eq_false_iff_ne.mpr c38
                have c38b1 : (t202.toList != t209.toList) = true := bne_iff_ne.mpr c38
                obtain rfl := Option.some.inj H
                exact absurd hr.out (by decide)
            · rw [if_neg c37] at H
              have c37b0 : (t201 == 5) = false := beq_eq_false_iff_ne.mpr c37
              have c37b1 : (t201 != 5) = true := bne_iff_ne.mpr c37
              obtain rfl := Option.some.inj H
              exact absurd hr.out (by decide)
        · rw [if_neg c22] at H
          have c22b0 : (t200.toList == t207.toList) = false := beq_eq_false_iff_ne.mpr c22
          have c22b1 : (t200.toList != t207.toList) = true := bne_iff_ne.mpr c22
          obtain rfl := Option.some.inj H
          exact absurd hr.out (by decide)
  · replace c7 := Bool.eq_false_iff.mpr c7
    subst c7
    have H1 : (if t198.toList = ([] : List UInt8) then (if t199 = 2 then (if t200.toList = ([] : List UInt8) then (if t201 = 2 then (if t202.toList = ([] : List UInt8) then (if t203 = 2 then ((galloonlaw01_awake.f k).bind fun t205 => (some t205)) else (some false)) else (some false)) else (some false)) else (some false)) else (some false)) else (some false)) = some r := by rw [if_neg (show ¬ (false = true) by decide)] at H; exact H
    clear H
    have H := H1
    clear H1
    by_cases c50 : t198.toList = ([] : List UInt8)
    · rw [if_pos c50] at H
      have c50b0 : (t198.toList == ([] : List UInt8)) = true := beq_iff_eq.mpr c50
      have c50b1 : (t198.toList != ([] : List UInt8)) = false := bne_eq_false_iff_eq.mpr c50
      clear c50
      by_cases c51 : t199 = 2
      · rw [if_pos c51] at H
        have c51b0 : (t199 == 2) = true := beq_iff_eq.mpr c51
        have c51b1 : (t199 != 2) = false := bne_eq_false_iff_eq.mpr c51
        clear c51
        by_cases c52 : t200.toList = ([] : List UInt8)
        · rw [if_pos c52] at H
          have c52b0 : (t200.toList == ([] : List UInt8)) = true := beq_iff_eq.mpr c52
          have c52b1 : (t200.toList != ([] : List UInt8)) = false := bne_eq_false_iff_eq.mpr c52
          clear c52
          by_cases c53 : t201 = 2
          · rw [if_pos c53] at H
            have c53b0 : (t201 == 2) = true := beq_iff_eq.mpr c53
            have c53b1 : (t201 != 2) = false := bne_eq_false_iff_eq.mpr c53
            clear c53
            by_cases c54 : t202.toList = ([] : List UInt8)
            · rw [if_pos c54] at H
              have c54b0 : (t202.toList == ([] : List UInt8)) = true := beq_iff_eq.mpr c54
              have c54b1 : (t202.toList != ([] : List UInt8)) = false := bne_eq_false_iff_eq.mpr c54
              clear c54
              by_cases c55 : t203 = 2
              · rw [if_pos c55] at H
                have c55b0 : (t203 == 2) = true := beq_iff_eq.mpr c55
                have c55b1 : (t203 != 2) = false := bne_eq_false_iff_eq.mpr c55
                clear c55
                replace H := Option.bind_eq_some_iff.mp H
                obtain ⟨t205, A560, H⟩ := H
                replace H : (some t205) = some r := H
                have A56 := Aside0.mk A560
                clear A560
                obtain rfl := Option.some.inj H
                go_enter Try.func4, Try.ntmps4
                go_wp2_with (first | ((with_reducible refine gate_callee (f := 16) rfl ?_); refine goesL_ (some 16) rfl rfl Try.func16 (by kernel_rfl) rfl #[.string a0] rfl (by (try simp only [List.map_toArray, List.map_cons, List.map_nil]); first | done | rfl | (simp only [List.length_drop, List.length_take]; rfl)) ?_; (with_reducible refine (galloonlaw01_short.calls a0 t197 _ A2.out).mono ?_); rintro e w57 ⟨rfl, hb⟩; refine ⟨_, rfl, ?_⟩; have n0_ := Aside0.mk (below_step (by repeat (first | (with_reducible first | exact HB.out | apply below_alloc | apply pw_below_drewN | apply below_drew1) | exact HB.out)) hb); clear HB; have HB := n0_; clear n0_; (try clear hb); (try clear hb2); (try clear hk); (try clear hi)) | ((with_reducible refine gate_callee (f := 24) rfl ?_); refine goesL_ (some 19) rfl rfl Try.func24 (by kernel_rfl) rfl #[.string t197] rfl (by (try simp only [List.map_toArray, List.map_cons, List.map_nil]); first | done | rfl | (simp only [List.length_drop, List.length_take]; rfl)) ?_; (with_reducible refine (trim_Closure.calls k t197 t198 t199 _ A3.out).mono ?_); rintro e w58 ⟨rfl, hb⟩; refine ⟨_, rfl, ?_⟩; have n0_ := Aside0.mk (below_step (by repeat (first | (with_reducible first | exact HB.out | apply below_alloc | apply pw_below_drewN | apply below_drew1) | exact HB.out)) hb); clear HB; have HB := n0_; clear n0_; (try clear hb); (try clear hb2); (try clear hk); (try clear hi)) | ((with_reducible refine gate_callee (f := 25) rfl ?_); refine goesL_ (some 24) rfl rfl Try.func25 (by kernel_rfl) rfl #[.string t197] rfl (by (try simp only [List.map_toArray, List.map_cons, List.map_nil]); first | done | rfl | (simp only [List.length_drop, List.length_take]; rfl)) ?_; (with_reducible refine (trim_Tower.calls k t197 t200 t201 _ A4.out).mono ?_); rintro e w59 ⟨rfl, hb⟩; refine ⟨_, rfl, ?_⟩; have n0_ := Aside0.mk (below_step (by repeat (first | (with_reducible first | exact HB.out | apply below_alloc | apply pw_below_drewN | apply below_drew1) | exact HB.out)) hb); clear HB; have HB := n0_; clear n0_; (try clear hb); (try clear hb2); (try clear hk); (try clear hi)) | ((with_reducible refine gate_callee (f := 26) rfl ?_); refine goesL_ (some 29) rfl rfl Try.func26 (by kernel_rfl) rfl #[.string t197] rfl (by (try simp only [List.map_toArray, List.map_cons, List.map_nil]); first | done | rfl | (simp only [List.length_drop, List.length_take]; rfl)) ?_; (with_reducible refine (trim_Base.calls k t197 t202 t203 _ A5.out).mono ?_); rintro e w60 ⟨rfl, hb⟩; refine ⟨_, rfl, ?_⟩; have n0_ := Aside0.mk (below_step (by repeat (first | (with_reducible first | exact HB.out | apply below_alloc | apply pw_below_drewN | apply below_drew1) | exact HB.out)) hb); clear HB; have HB := n0_; clear n0_; (try clear hb); (try clear hb2); (try clear hk); (try clear hi)) | ((with_reducible refine gate_callee (f := 19) rfl ?_); refine goesL_ (some 33) rfl rfl Try.func19 (by kernel_rfl) rfl #[.string t197] rfl (by (try simp only [List.map_toArray, List.map_cons, List.map_nil]); first | done | rfl | (simp only [List.length_drop, List.length_take]; rfl)) ?_; (with_reducible refine (galloonref01_Word.calls k t197 false _ A6.out).mono ?_); rintro e w' ⟨rfl, ⟨nd, rfl⟩⟩; refine ⟨_, rfl, ?_⟩) | (go_at_call 20; (with_reducible refine (galloonlaw01_awake.calls k  t205 _ A56.out (Glob.at hg (by repeat (first | (with_reducible first | exact HB.out | apply below_alloc | apply pw_below_drewN | apply below_drew1) | exact HB.out)))).mono ?_); rintro e w61 ⟨rfl, hb⟩; have n0_ := Aside0.mk (below_step (by repeat (first | (with_reducible first | exact HB.out | apply below_alloc | apply pw_below_drewN | apply below_drew1) | exact HB.out)) hb); clear HB; have HB := n0_; clear n0_; (try clear hb); (try clear hb2); (try clear hk); (try clear hi)))
                go_ret
                exact ⟨by first | rfl | (simp [errW_none, errW_some] <;> rfl) | (simp [*, errW_none, errW_some] <;> rfl), by repeat (first | (with_reducible first | exact HB.out | apply below_alloc | apply pw_below_drewN | apply below_drew1) | exact HB.out)⟩
              · rw [if_neg c55] at H
                have c55b0 : (t203 == 2) = false := beq_eq_false_iff_ne.mpr c55
                have c55b1 : (t203 != 2) = true := bne_iff_ne.mpr c55
                obtain rfl := Option.some.inj H
                exact absurd hr.out (by decide)
            · rw [if_neg c54] at H
              have c54b0 : (t202.toList == ([] : List UInt8)) = false := beq_eq_false_iff_ne.mpr c54
              have c54b1 : (t202.toList != ([] : List UInt8)) = true := bne_iff_ne.mpr c54
              obtain rfl := Option.some.inj H
              exact absurd hr.out (by decide)
          · rw [if_neg c53] at H
            have c53b0 : (t201 == 2) = false := beq_eq_false_iff_ne.mpr c53
            have c53b1 : (t201 != 2) = true := bne_iff_ne.mpr c53
            obtain rfl := Option.some.inj H
            exact absurd hr.out (by decide)
        · rw [if_neg c52] at H
          have c52b0 : (t200.toList == ([] : List UInt8)) = false := beq_eq_false_iff_ne.mpr c52
          have c52b1 : (t200.toList != ([] : List UInt8)) = true := bne_iff_ne.mpr c52
          obtain rfl := Option.some.inj H
          exact absurd hr.out (by decide)
      · rw [if_neg c51] at H
        have c51b0 : (t199 == 2) = false := beq_eq_false_iff_ne.mpr c51
        have c51b1 : (t199 != 2) = true := bne_iff_ne.mpr c51
        obtain rfl := Option.some.inj H
        exact absurd hr.out (by decide)
    · rw [if_neg c50] at H
      have c50b0 : (t198.toList == ([] : List UInt8)) = false := beq_eq_false_iff_ne.mpr c50
      have c50b1 : (t198.toList != ([] : List UInt8)) = true := bne_iff_ne.mpr c50
      obtain rfl := Option.some.inj H
      exact absurd hr.out (by decide)

/-- THE ONE PURE STATEMENT of galloonlaw01_TrimClosures: yours. -/
def galloonlaw01_TrimClosures.Pure : Prop := ∀ (a0 : ByteArray), a0.size ≤ 140737488351232 → ∃ k, galloonlaw01_TrimClosures.f k a0 = some true
theorem galloonlaw01_TrimClosures.walk (P : galloonlaw01_TrimClosures.Pure) (a0 : ByteArray) (w : World) (w0 : a0.size ≤ 140737488351232) (hg : Glob w) :
    Calls Try.prog 4 #[.string a0] w fun e w' => e = .returned (.bool true) ∧ Below w.heap.size w w' := by
  obtain ⟨k, h⟩ := P a0 w0
  refine (galloonlaw01_TrimClosures.calls k a0 true w h ⟨rfl⟩ hg).mono ?_
  rintro e w' ⟨rfl, hd⟩
  exact ⟨rfl, hd⟩

end Go.Proofs.Ytbdlhgdfnnbjiaa.PY
