-- Made by the session's own driver (wip/tools/p2.py) out of the translation; Lean checks it.
import Derived.Test.YtbdlhgdfnnbjiaaPYx0
import Derived.Test.YtbdlhgdfnnbjiaaPYx1
import Derived.Test.YtbdlhgdfnnbjiaaPYx5
import Derived.Test.YtbdlhgdfnnbjiaaPYx10
import Derived.Test.YtbdlhgdfnnbjiaaPYx27
import Derived.Test.YtbdlhgdfnnbjiaaPYx28
import Derived.Test.YtbdlhgdfnnbjiaaPYx32
import Derived.Test.YtbdlhgdfnnbjiaaPYx33
import Derived.Test.YtbdlhgdfnnbjiaaPYx39
import Derived.Test.YtbdlhgdfnnbjiaaPYx40
namespace Go.Proofs.Ytbdlhgdfnnbjiaa.PY
open Go.RowKit Go.Proofs.YtbdlhgdfnnbjiaaW.PrintWords Go.Proofs.YtbdlhgdfnnbjiaaW.PrintLast Go.Proofs.YtbdlhgdfnnbjiaaW.PrintMore
attribute [local go_sem] max2_int min2_int max_two min_two max_three min_three max_four min_four   -- for this text's walks alone
set_option linter.unusedVariables false
set_option linter.unusedSimpArgs false

/-! ### galloonlaw01_TrimParts: function 15 -/
def galloonlaw01_TrimParts.j0 : Nat → ByteArray → Int → Int → Bool → Option (Bool)
  | 0, _, _, _, _ => none
  | k + 1, x3, x6, x7, x63 => if x63 = true then (some false) else ((galloonref01_Ways.f k x3).bind fun bt632 => (if bt632.2 = true then (if x6 = bt632.1 then (if x7 = 0 then ((galloonlaw01_awake.f k).bind fun t634 => (some t634)) else (some false)) else (some false)) else (if x6 = 0 then (if x7 = 5 then ((galloonlaw01_awake.f k).bind fun t635 => (some t635)) else (some false)) else (some false))))
def galloonlaw01_TrimParts.f (k : Nat) (a0 : ByteArray) : Option (Bool) := (galloonlaw01_short.f a0).bind fun t620 => ((trim_Fewest.f k t620).bind fun bt621 => ((trim_Ways.f k t620).bind fun bt625 => ((galloonref01_Word.f k t620).bind fun t627 => (if t627 = true then (if bt621.2 = 0 then ((galloonref01_Parts.f k t620 bt621.1).bind fun t629 => (if t629 = true then ((galloonref01_Fewest.f k t620).bind fun t630 => (if (bt621.1.length : Int) = t630 then ((trim_Check.f k t620 bt621.1).bind fun t631 => (galloonlaw01_TrimParts.j0 k t620 bt625.1 bt625.2 (t631 != 0))) else (galloonlaw01_TrimParts.j0 k t620 bt625.1 bt625.2 true))) else (galloonlaw01_TrimParts.j0 k t620 bt625.1 bt625.2 true))) else (galloonlaw01_TrimParts.j0 k t620 bt625.1 bt625.2 true)) else (if (bt621.1.length : Int) = 0 then (if bt621.2 = 2 then (if bt625.1 = 0 then (if bt625.2 = 2 then ((galloonlaw01_awake.f k).bind fun t628 => (some t628)) else (some false)) else (some false)) else (some false)) else (some false))))))
theorem galloonlaw01_TrimParts.mono_l : ∀ k, (∀ y0 y1 y2 y3, LeO (galloonlaw01_TrimParts.j0 k y0 y1 y2 y3) (galloonlaw01_TrimParts.j0 (k + 1) y0 y1 y2 y3))
  | 0 => fun _ _ _ _ r h => by simp [galloonlaw01_TrimParts.j0] at h
  | k + 1 => by
    have ih0 := galloonlaw01_TrimParts.mono_l k
    · intro y0 y1 y2 y3
      unfold galloonlaw01_TrimParts.j0
      repeat' first
      | (with_reducible exact ih0 _ _ _ _)
      | (with_reducible exact galloonlaw01_awake.mono _)
      | (with_reducible exact galloonref01_Fewest.mono _ _)
      | (with_reducible exact galloonref01_Parts.mono _ _ _)
      | (with_reducible exact galloonref01_Ways.mono _ _)
      | (with_reducible exact galloonref01_Word.mono _ _)
      | (with_reducible exact trim_Check.mono _ _ _)
      | (with_reducible exact trim_Fewest.mono _ _)
      | (with_reducible exact trim_Ways.mono _ _)
      | (with_reducible exact LeO.refl _)
      | (with_reducible exact LeO.none _)
      | (with_reducible refine LeO.ite ?_ ?_)
      | (with_reducible refine LeO.bind ?_ (fun _ => ?_))
      | exact ih0 _ _ _ _
      | exact galloonlaw01_awake.mono _
      | exact galloonref01_Fewest.mono _ _
      | exact galloonref01_Parts.mono _ _ _
      | exact galloonref01_Ways.mono _ _
      | exact galloonref01_Word.mono _ _
      | exact trim_Check.mono _ _ _
      | exact trim_Fewest.mono _ _
      | exact trim_Ways.mono _ _
      | exact LeO.none _
      | refine LeO.ite ?_ ?_
      | refine LeO.bind ?_ (fun _ => ?_)
theorem galloonlaw01_TrimParts.mono : ∀ a0 k, LeO (galloonlaw01_TrimParts.f k a0) (galloonlaw01_TrimParts.f (k + 1) a0) := by
  intro a0 k
  have ih0 := galloonlaw01_TrimParts.mono_l k
  unfold galloonlaw01_TrimParts.f
  repeat' first
      | (with_reducible exact ih0 _ _ _ _)
      | (with_reducible exact galloonlaw01_awake.mono _)
      | (with_reducible exact galloonref01_Fewest.mono _ _)
      | (with_reducible exact galloonref01_Parts.mono _ _ _)
      | (with_reducible exact galloonref01_Ways.mono _ _)
      | (with_reducible exact galloonref01_Word.mono _ _)
      | (with_reducible exact trim_Check.mono _ _ _)
      | (with_reducible exact trim_Fewest.mono _ _)
      | (with_reducible exact trim_Ways.mono _ _)
      | (with_reducible exact LeO.refl _)
      | (with_reducible exact LeO.none _)
      | (with_reducible refine LeO.ite ?_ ?_)
      | (with_reducible refine LeO.bind ?_ (fun _ => ?_))
      | exact ih0 _ _ _ _
      | exact galloonlaw01_awake.mono _
      | exact galloonref01_Fewest.mono _ _
      | exact galloonref01_Parts.mono _ _ _
      | exact galloonref01_Ways.mono _ _
      | exact galloonref01_Word.mono _ _
      | exact trim_Check.mono _ _ _
      | exact trim_Fewest.mono _ _
      | exact trim_Ways.mono _ _
      | exact LeO.none _
      | refine LeO.ite ?_ ?_
      | refine LeO.bind ?_ (fun _ => ?_)
set_option maxHeartbeats 8000000 in
set_option maxRecDepth 100000 in
theorem galloonlaw01_TrimParts.calls (k : Nat) (a0 : ByteArray) (r : Bool) (w : World) (h : galloonlaw01_TrimParts.f k a0 = some r) (hr : Aside0 (r = true)) (hg : Glob w) :
    Calls Try.prog 15 #[.string a0] w fun e w' => e = .returned (.bool r) ∧ Below w.heap.size w w' := by
  have HB := Aside0.mk (Below.refl w.heap.size w)
  have H : ((galloonlaw01_short.f a0).bind fun t620 => ((trim_Fewest.f k t620).bind fun bt621 => ((trim_Ways.f k t620).bind fun bt625 => ((galloonref01_Word.f k t620).bind fun t627 => (if t627 = true then (if bt621.2 = 0 then ((galloonref01_Parts.f k t620 bt621.1).bind fun t629 => (if t629 = true then ((galloonref01_Fewest.f k t620).bind fun t630 => (if (bt621.1.length : Int) = t630 then ((trim_Check.f k t620 bt621.1).bind fun t631 => (galloonlaw01_TrimParts.j0 k t620 bt625.1 bt625.2 (t631 != 0))) else (galloonlaw01_TrimParts.j0 k t620 bt625.1 bt625.2 true))) else (galloonlaw01_TrimParts.j0 k t620 bt625.1 bt625.2 true))) else (galloonlaw01_TrimParts.j0 k t620 bt625.1 bt625.2 true)) else (if (bt621.1.length : Int) = 0 then (if bt621.2 = 2 then (if bt625.1 = 0 then (if bt625.2 = 2 then ((galloonlaw01_awake.f k).bind fun t628 => (some t628)) else (some false)) else (some false)) else (some false)) else (some false))))))) = some r := h
  clear h
  replace H := Option.bind_eq_some_iff.mp H
  obtain ⟨t620, A20, H⟩ := H
  replace H : ((trim_Fewest.f k t620).bind fun bt621 => ((trim_Ways.f k t620).bind fun bt625 => ((galloonref01_Word.f k t620).bind fun t627 => (if t627 = true then (if bt621.2 = 0 then ((galloonref01_Parts.f k t620 bt621.1).bind fun t629 => (if t629 = true then ((galloonref01_Fewest.f k t620).bind fun t630 => (if (bt621.1.length : Int) = t630 then ((trim_Check.f k t620 bt621.1).bind fun t631 => (galloonlaw01_TrimParts.j0 k t620 bt625.1 bt625.2 (t631 != 0))) else (galloonlaw01_TrimParts.j0 k t620 bt625.1 bt625.2 true))) else (galloonlaw01_TrimParts.j0 k t620 bt625.1 bt625.2 true))) else (galloonlaw01_TrimParts.j0 k t620 bt625.1 bt625.2 true)) else (if (bt621.1.length : Int) = 0 then (if bt621.2 = 2 then (if bt625.1 = 0 then (if bt625.2 = 2 then ((galloonlaw01_awake.f k).bind fun t628 => (some t628)) else (some false)) else (some false)) else (some false)) else (some false)))))) = some r := H
  have A2 := Aside0.mk A20
  clear A20
  replace H := Option.bind_eq_some_iff.mp H
  obtain ⟨⟨t621, t622⟩, A30, H⟩ := H
  replace H : ((trim_Ways.f k t620).bind fun bt625 => ((galloonref01_Word.f k t620).bind fun t627 => (if t627 = true then (if t622 = 0 then ((galloonref01_Parts.f k t620 t621).bind fun t629 => (if t629 = true then ((galloonref01_Fewest.f k t620).bind fun t630 => (if (t621.length : Int) = t630 then ((trim_Check.f k t620 t621).bind fun t631 => (galloonlaw01_TrimParts.j0 k t620 bt625.1 bt625.2 (t631 != 0))) else (galloonlaw01_TrimParts.j0 k t620 bt625.1 bt625.2 true))) else (galloonlaw01_TrimParts.j0 k t620 bt625.1 bt625.2 true))) else (galloonlaw01_TrimParts.j0 k t620 bt625.1 bt625.2 true)) else (if (t621.length : Int) = 0 then (if t622 = 2 then (if bt625.1 = 0 then (if bt625.2 = 2 then ((galloonlaw01_awake.f k).bind fun t628 => (some t628)) else (some false)) else (some false)) else (some false)) else (some false))))) = some r := H
  have A3 := Aside0.mk A30
  clear A30
  replace H := Option.bind_eq_some_iff.mp H
  obtain ⟨⟨t625, t626⟩, A40, H⟩ := H
  replace H : ((galloonref01_Word.f k t620).bind fun t627 => (if t627 = true then (if t622 = 0 then ((galloonref01_Parts.f k t620 t621).bind fun t629 => (if t629 = true then ((galloonref01_Fewest.f k t620).bind fun t630 => (if (t621.length : Int) = t630 then ((trim_Check.f k t620 t621).bind fun t631 => (galloonlaw01_TrimParts.j0 k t620 t625 t626 (t631 != 0))) else (galloonlaw01_TrimParts.j0 k t620 t625 t626 true))) else (galloonlaw01_TrimParts.j0 k t620 t625 t626 true))) else (galloonlaw01_TrimParts.j0 k t620 t625 t626 true)) else (if (t621.length : Int) = 0 then (if t622 = 2 then (if t625 = 0 then (if t626 = 2 then ((galloonlaw01_awake.f k).bind fun t628 => (some t628)) else (some false)) else (some false)) else (some false)) else (some false)))) = some r := H
  have A4 := Aside0.mk A40
  clear A40
  replace H := Option.bind_eq_some_iff.mp H
  obtain ⟨t627, A50, H⟩ := H
  replace H : (if t627 = true then (if t622 = 0 then ((galloonref01_Parts.f k t620 t621).bind fun t629 => (if t629 = true then ((galloonref01_Fewest.f k t620).bind fun t630 => (if (t621.length : Int) = t630 then ((trim_Check.f k t620 t621).bind fun t631 => (galloonlaw01_TrimParts.j0 k t620 t625 t626 (t631 != 0))) else (galloonlaw01_TrimParts.j0 k t620 t625 t626 true))) else (galloonlaw01_TrimParts.j0 k t620 t625 t626 true))) else (galloonlaw01_TrimParts.j0 k t620 t625 t626 true)) else (if (t621.length : Int) = 0 then (if t622 = 2 then (if t625 = 0 then (if t626 = 2 then ((galloonlaw01_awake.f k).bind fun t628 => (some t628)) else (some false)) else (some false)) else (some false)) else (some false))) = some r := H
  have A5 := Aside0.mk A50
  clear A50
  by_cases c6 : t627 = true
  · subst c6
    have H1 : (if t622 = 0 then ((galloonref01_Parts.f k t620 t621).bind fun t629 => (if t629 = true then ((galloonref01_Fewest.f k t620).bind fun t630 => (if (t621.length : Int) = t630 then ((trim_Check.f k t620 t621).bind fun t631 => (galloonlaw01_TrimParts.j0 k t620 t625 t626 (t631 != 0))) else (galloonlaw01_TrimParts.j0 k t620 t625 t626 true))) else (galloonlaw01_TrimParts.j0 k t620 t625 t626 true))) else (galloonlaw01_TrimParts.j0 k t620 t625 t626 true)) = some r := by rw [if_pos rfl] at H; exact H
    clear H
    have H := H1
    clear H1
    have HC7 := Aside0.mk H
    clear H
    go_enter Try.func15, Try.ntmps15
    go_upto_region 6 with (first | ((with_reducible refine gate_callee (f := 16) rfl ?_); refine goesL_ (some 11) rfl rfl Try.func16 (by kernel_rfl) rfl #[.string a0] rfl (by (try simp only [List.map_toArray, List.map_cons, List.map_nil]); first | done | rfl | (simp only [List.length_drop, List.length_take]; rfl)) ?_; (with_reducible refine (galloonlaw01_short.calls a0 t620 _ A2.out).mono ?_); rintro e w8 ⟨rfl, hb⟩; refine ⟨_, rfl, ?_⟩; have n0_ := Aside0.mk (below_step (by repeat (first | (with_reducible first | exact HB.out | apply below_alloc | apply pw_below_drewN | apply below_drew1) | exact HB.out)) hb); clear HB; have HB := n0_; clear n0_; (try clear hb); (try clear hb2); (try clear hk); (try clear hi)) | ((with_reducible refine gate_callee (f := 50) rfl ?_); refine goesL_ (some 14) rfl rfl Try.func50 (by kernel_rfl) rfl #[.string t620] rfl (by (try simp only [List.map_toArray, List.map_cons, List.map_nil]); first | done | rfl | (simp only [List.length_drop, List.length_take]; rfl)) ?_; (with_reducible refine (trim_Fewest.calls k t620 t621 t622 _ A3.out).mono ?_); rintro e w9 ⟨v623, rfl, ho0, hb⟩; refine ⟨_, rfl, ?_⟩; have n0_ := Aside0.mk (Kd.R_lower ho0 (below_size (by repeat (first | (with_reducible first | exact HB.out | apply below_alloc | apply pw_below_drewN | apply below_drew1) | exact HB.out)))); have n1_ := Aside0.mk (below_step (by repeat (first | (with_reducible first | exact HB.out | apply below_alloc | apply pw_below_drewN | apply below_drew1) | exact HB.out)) hb); clear HB; have HO624 := n0_; have HB := n1_; clear n0_ n1_; (try clear hb); (try clear hb2); (try clear hk); (try clear hi); (try clear ho0)) | ((with_reducible refine gate_callee (f := 51) rfl ?_); refine goesL_ (some 19) rfl rfl Try.func51 (by kernel_rfl) rfl #[.string t620] rfl (by (try simp only [List.map_toArray, List.map_cons, List.map_nil]); first | done | rfl | (simp only [List.length_drop, List.length_take]; rfl)) ?_; (with_reducible refine (trim_Ways.calls k t620 t625 t626 _ A4.out).mono ?_); rintro e w10 ⟨rfl, hb⟩; refine ⟨_, rfl, ?_⟩; have n0_ := Aside0.mk (Kd.R_below (by (with_reducible repeat (first | apply Kd.R_alloc | apply Kd.R_drewN | apply Kd.R_drew)); exact HO624.out) hb); have n1_ := Aside0.mk (below_step (by repeat (first | (with_reducible first | exact HB.out | apply below_alloc | apply pw_below_drewN | apply below_drew1) | exact HB.out)) hb); clear HO624; clear HB; have HO624 := n0_; have HB := n1_; clear n0_ n1_; (try clear hb); (try clear hb2); (try clear hk); (try clear hi)) | ((with_reducible refine gate_callee (f := 19) rfl ?_); refine goesL_ (some 23) rfl rfl Try.func19 (by kernel_rfl) rfl #[.string t620] rfl (by (try simp only [List.map_toArray, List.map_cons, List.map_nil]); first | done | rfl | (simp only [List.length_drop, List.length_take]; rfl)) ?_; (with_reducible refine (galloonref01_Word.calls k t620 true _ A5.out).mono ?_); rintro e w' ⟨rfl, ⟨nd, rfl⟩⟩; refine ⟨_, rfl, ?_⟩))
    (try simp only [Act.put, List.setIfInBounds_toArray, List.set_cons_zero, List.set_cons_succ])
    go_cut [63] (fun v63 wc => ∃ (kq : Nat) (x63_6 : Bool), v63 = .bool x63_6 ∧ Aside0 (galloonlaw01_TrimParts.j0 kq t620 t625 t626 x63_6 = some r) ∧ Aside0 (kq ≤ k) ∧ Aside0 (Below w.heap.size w wc))
    case first =>
      have H := HC7.out
      clear HC7
      by_cases c11 : t622 = 0
      · rw [if_pos c11] at H
        have c11b0 : (t622 == 0) = true := beq_iff_eq.mpr c11
        have c11b1 : (t622 != 0) = false := bne_eq_false_iff_eq.mpr c11
        clear c11
        (first | rw [c11b0] | (simp only [i64_w, i32_w]; rw [c11b0]) | skip)
        replace H := Option.bind_eq_some_iff.mp H
        obtain ⟨t629, A120, H⟩ := H
        replace H : (if t629 = true then ((galloonref01_Fewest.f k t620).bind fun t630 => (if (t621.length : Int) = t630 then ((trim_Check.f k t620 t621).bind fun t631 => (galloonlaw01_TrimParts.j0 k t620 t625 t626 (t631 != 0))) else (galloonlaw01_TrimParts.j0 k t620 t625 t626 true))) else (galloonlaw01_TrimParts.j0 k t620 t625 t626 true)) = some r := H
        have A12 := Aside0.mk A120
        clear A120
        by_cases c13 : t629 = true
        · subst c13
          have H1 : ((galloonref01_Fewest.f k t620).bind fun t630 => (if (t621.length : Int) = t630 then ((trim_Check.f k t620 t621).bind fun t631 => (galloonlaw01_TrimParts.j0 k t620 t625 t626 (t631 != 0))) else (galloonlaw01_TrimParts.j0 k t620 t625 t626 true))) = some r := by rw [if_pos rfl] at H; exact H
          clear H
          have H := H1
          clear H1
          replace H := Option.bind_eq_some_iff.mp H
          obtain ⟨t630, A140, H⟩ := H
          replace H : (if (t621.length : Int) = t630 then ((trim_Check.f k t620 t621).bind fun t631 => (galloonlaw01_TrimParts.j0 k t620 t625 t626 (t631 != 0))) else (galloonlaw01_TrimParts.j0 k t620 t625 t626 true)) = some r := H
          have A14 := Aside0.mk A140
          clear A140
          by_cases c15 : (t621.length : Int) = t630
          · rw [if_pos c15] at H
            have c15b0 : ((t621.length : Int) == t630) = true := beq_iff_eq.mpr c15
            have c15b1 : ((t621.length : Int) != t630) = false := bne_eq_false_iff_eq.mpr c15
            clear c15
            replace H := Option.bind_eq_some_iff.mp H
            obtain ⟨t631, A160, H⟩ := H
            replace H : (galloonlaw01_TrimParts.j0 k t620 t625 t626 (t631 != 0)) = some r := H
            have A16 := Aside0.mk A160
            clear A160
            have H' := Aside0.mk H
            clear H
            obtain ⟨Ao17, co17, eo17⟩ := Kd.R_slice HO624.out
            subst eo17
            go_wp2_with (first | (go_at_call 48; (with_reducible refine (galloonref01_Parts.calls k t620 _ _ t621 true _ ?side1 ?side2 A12.out).mono ?_); (case side1 => repeat (first | exact (Kd.R_reads' HO624.out).2.2 | (with_reducible refine Kd.C_alloc ?_ _) | (with_reducible refine Kd.C_drewN ?_ _) | (with_reducible refine Kd.C_drew ?_))); (case side2 => exact (Kd.R_reads' HO624.out).2.1); rintro e w18 ⟨rfl, hb⟩; have n0_ := Aside0.mk (Kd.R_below (by (with_reducible repeat (first | apply Kd.R_alloc | apply Kd.R_drewN | apply Kd.R_drew)); exact HO624.out) hb); have n1_ := Aside0.mk (below_step (by repeat (first | (with_reducible first | exact HB.out | apply below_alloc | apply pw_below_drewN | apply below_drew1) | exact HB.out)) hb); clear HO624; clear HB; have HO624 := n0_; have HB := n1_; clear n0_ n1_; (try clear hb); (try clear hb2); (try clear hk); (try clear hi)) | (go_at_call 52; (with_reducible refine (galloonref01_Fewest.calls k t620 t630 _ A14.out).mono ?_); rintro e w19 ⟨rfl, hb⟩; have n0_ := Aside0.mk (Kd.R_below (by (with_reducible repeat (first | apply Kd.R_alloc | apply Kd.R_drewN | apply Kd.R_drew)); exact HO624.out) hb); have n1_ := Aside0.mk (below_step (by repeat (first | (with_reducible first | exact HB.out | apply below_alloc | apply pw_below_drewN | apply below_drew1) | exact HB.out)) hb); clear HO624; clear HB; have HO624 := n0_; have HB := n1_; clear n0_ n1_; (try clear hb); (try clear hb2); (try clear hk); (try clear hi)) | (go_at_call 47; (with_reducible refine (trim_Check.calls k t620 _ _ t621 t631 _ ?side1 ?side2 A16.out).mono ?_); (case side1 => repeat (first | exact (Kd.R_reads' HO624.out).2.2 | (with_reducible refine Kd.C_alloc ?_ _) | (with_reducible refine Kd.C_drewN ?_ _) | (with_reducible refine Kd.C_drew ?_))); (case side2 => exact (Kd.R_reads' HO624.out).2.1); rintro e w20 ⟨rfl, hb⟩; have n0_ := Aside0.mk (Kd.R_below (by (with_reducible repeat (first | apply Kd.R_alloc | apply Kd.R_drewN | apply Kd.R_drew)); exact HO624.out) hb); have n1_ := Aside0.mk (below_step (by repeat (first | (with_reducible first | exact HB.out | apply below_alloc | apply pw_below_drewN | apply below_drew1) | exact HB.out)) hb); clear HO624; clear HB; have HO624 := n0_; have HB := n1_; clear n0_ n1_; (try clear hb); (try clear hb2); (try clear hk); (try clear hi)))
            go_meet
            case rel => exact ⟨_, ((t631 != 0)), (by first | rfl | (simp; done) | (simp [*]; done)), H', ⟨by first | omega | exact Nat.le_refl _⟩, ⟨by repeat (first | (with_reducible first | exact HB.out | apply below_alloc | apply pw_below_drewN | apply below_drew1) | exact HB.out)⟩⟩
          · rw [if_neg c15] at H
            have c15b0 : ((t621.length : Int) == t630) = false := beq_eq_false_iff_ne.mpr c15
            have c15b1 : ((t621.length : Int) != t630) = true := bne_iff_ne.mpr c15
            have H' := Aside0.mk H
            clear H
            obtain ⟨Ao21, co21, eo21⟩ := Kd.R_slice HO624.out
            subst eo21
            go_wp2_with (first | (go_at_call 48; (with_reducible refine (galloonref01_Parts.calls k t620 _ _ t621 true _ ?side1 ?side2 A12.out).mono ?_); (case side1 => repeat (first | exact (Kd.R_reads' HO624.out).2.2 | (with_reducible refine Kd.C_alloc ?_ _) | (with_reducible refine Kd.C_drewN ?_ _) | (with_reducible refine Kd.C_drew ?_))); (case side2 => exact (Kd.R_reads' HO624.out).2.1); rintro e w22 ⟨rfl, hb⟩; have n0_ := Aside0.mk (Kd.R_below (by (with_reducible repeat (first | apply Kd.R_alloc | apply Kd.R_drewN | apply Kd.R_drew)); exact HO624.out) hb); have n1_ := Aside0.mk (below_step (by repeat (first | (with_reducible first | exact HB.out | apply below_alloc | apply pw_below_drewN | apply below_drew1) | exact HB.out)) hb); clear HO624; clear HB; have HO624 := n0_; have HB := n1_; clear n0_ n1_; (try clear hb); (try clear hb2); (try clear hk); (try clear hi)) | (go_at_call 52; (with_reducible refine (galloonref01_Fewest.calls k t620 t630 _ A14.out).mono ?_); rintro e w23 ⟨rfl, hb⟩; have n0_ := Aside0.mk (Kd.R_below (by (with_reducible repeat (first | apply Kd.R_alloc | apply Kd.R_drewN | apply Kd.R_drew)); exact HO624.out) hb); have n1_ := Aside0.mk (below_step (by repeat (first | (with_reducible first | exact HB.out | apply below_alloc | apply pw_below_drewN | apply below_drew1) | exact HB.out)) hb); clear HO624; clear HB; have HO624 := n0_; have HB := n1_; clear n0_ n1_; (try clear hb); (try clear hb2); (try clear hk); (try clear hi)))
            go_meet
            case rel => exact ⟨_, (true), (by first | rfl | (simp; done) | (simp [*]; done)), H', ⟨by first | omega | exact Nat.le_refl _⟩, ⟨by repeat (first | (with_reducible first | exact HB.out | apply below_alloc | apply pw_below_drewN | apply below_drew1) | exact HB.out)⟩⟩
        · replace c13 := Bool.eq_false_iff.mpr c13
          subst c13
          have H1 : (galloonlaw01_TrimParts.j0 k t620 t625 t626 true) = some r := by rw [if_neg (show ¬ (false = true) by decide)] at H; exact H
          clear H
          have H := H1
          clear H1
          have H' := Aside0.mk H
          clear H
          obtain ⟨Ao24, co24, eo24⟩ := Kd.R_slice HO624.out
          subst eo24
          go_wp2_with (first | (go_at_call 48; (with_reducible refine (galloonref01_Parts.calls k t620 _ _ t621 false _ ?side1 ?side2 A12.out).mono ?_); (case side1 => repeat (first | exact (Kd.R_reads' HO624.out).2.2 | (with_reducible refine Kd.C_alloc ?_ _) | (with_reducible refine Kd.C_drewN ?_ _) | (with_reducible refine Kd.C_drew ?_))); (case side2 => exact (Kd.R_reads' HO624.out).2.1); rintro e w25 ⟨rfl, hb⟩; have n0_ := Aside0.mk (Kd.R_below (by (with_reducible repeat (first | apply Kd.R_alloc | apply Kd.R_drewN | apply Kd.R_drew)); exact HO624.out) hb); have n1_ := Aside0.mk (below_step (by repeat (first | (with_reducible first | exact HB.out | apply below_alloc | apply pw_below_drewN | apply below_drew1) | exact HB.out)) hb); clear HO624; clear HB; have HO624 := n0_; have HB := n1_; clear n0_ n1_; (try clear hb); (try clear hb2); (try clear hk); (try clear hi)))
          go_meet
          case rel => exact ⟨_, (true), (by first | rfl | (simp; done) | (simp [*]; done)), H', ⟨by first | omega | exact Nat.le_refl _⟩, ⟨by repeat (first | (with_reducible first | exact HB.out | apply below_alloc | apply pw_below_drewN | apply below_drew1) | exact HB.out)⟩⟩
      · rw [if_neg c11] at H
        have c11b0 : (t622 == 0) = false := beq_eq_false_iff_ne.mpr c11
        have c11b1 : (t622 != 0) = true := bne_iff_ne.mpr c11
        (first | rw [c11b0] | (simp only [i64_w, i32_w]; rw [c11b0]) | skip)
        have H' := Aside0.mk H
        clear H
        go_wp2
        go_meet
        case rel => exact ⟨_, (true), (by first | rfl | (simp; done) | (simp [*]; done)), H', ⟨by first | omega | exact Nat.le_refl _⟩, ⟨by repeat (first | (with_reducible first | exact HB.out | apply below_alloc | apply pw_below_drewN | apply below_drew1) | exact HB.out)⟩⟩
    case rest =>
      clear HC7
      try clear c1
      try clear p2
      try clear c5
      try clear c6
      try clear c11
      try clear c11b0
      try clear c11b1
      try clear c13
      try clear c15
      try clear c15b0
      try clear c15b1
      try clear c16
      try clear c19
      obtain ⟨kq, x63_6, rfl, HA, HJ6, HB⟩ := hcut
      cases kq with
      | zero => exact absurd HA.out (by simp [galloonlaw01_TrimParts.j0])
      | succ kj6 =>
        have H := HA.out
        clear HA
        simp only [galloonlaw01_TrimParts.j0] at H
        by_cases c26 : x63_6 = true
        · subst c26
          have H1 : (some false) = some r := by rw [if_pos rfl] at H; exact H
          clear H
          have H := H1
          clear H1
          obtain rfl := Option.some.inj H
          exact absurd hr.out (by decide)
        · replace c26 := Bool.eq_false_iff.mpr c26
          subst c26
          have H1 : ((galloonref01_Ways.f kj6 t620).bind fun bt632 => (if bt632.2 = true then (if t625 = bt632.1 then (if t626 = 0 then ((galloonlaw01_awake.f kj6).bind fun t634 => (some t634)) else (some false)) else (some false)) else (if t625 = 0 then (if t626 = 5 then ((galloonlaw01_awake.f kj6).bind fun t635 => (some t635)) else (some false)) else (some false)))) = some r := by rw [if_neg (show ¬ (false = true) by decide)] at H; exact H
          clear H
          have H := H1
          clear H1
          replace H := Option.bind_eq_some_iff.mp H
          obtain ⟨⟨t632, t633⟩, A270, H⟩ := H
          replace H : (if t633 = true then (if t625 = t632 then (if t626 = 0 then ((galloonlaw01_awake.f kj6).bind fun t634 => (some t634)) else (some false)) else (some false)) else (if t625 = 0 then (if t626 = 5 then ((galloonlaw01_awake.f kj6).bind fun t635 => (some t635)) else (some false)) else (some false))) = some r := H
          have A27 := Aside0.mk A270
          clear A270
          by_cases c28 : t633 = true
          · subst c28
            have H1 : (if t625 = t632 then (if t626 = 0 then ((galloonlaw01_awake.f kj6).bind fun t634 => (some t634)) else (some false)) else (some false)) = some r := by rw [if_pos rfl] at H; exact H
            clear H
            have H := H1
            clear H1
            by_cases c29 : t625 = t632
            · rw [if_pos c29] at H
              have c29b0 : (t625 == t632) = true := beq_iff_eq.mpr c29
              have c29b1 : (t625 != t632) = false := bne_eq_false_iff_eq.mpr c29
              clear c29
              by_cases c30 : t626 = 0
              · rw [if_pos c30] at H
                have c30b0 : (t626 == 0) = true := beq_iff_eq.mpr c30
                have c30b1 : (t626 != 0) = false := bne_eq_false_iff_eq.mpr c30
                clear c30
                replace H := Option.bind_eq_some_iff.mp H
                obtain ⟨t634, A310, H⟩ := H
                replace H : (some t634) = some r := H
                have A31 := Aside0.mk A310
                clear A310
                obtain rfl := Option.some.inj H
                go_wp2_with (first | ((with_reducible refine gate_callee (f := 53) rfl ?_); refine goesL_ (some 66) rfl rfl Try.func53 (by kernel_rfl) rfl #[.string t620] rfl (by (try simp only [List.map_toArray, List.map_cons, List.map_nil]); first | done | rfl | (simp only [List.length_drop, List.length_take]; rfl)) ?_; (with_reducible refine (galloonref01_Ways.calls kj6 t620 t632 true _ A27.out).mono ?_); rintro e w32 ⟨rfl, hb⟩; refine ⟨_, rfl, ?_⟩; have n0_ := Aside0.mk (below_step (by repeat (first | (with_reducible first | exact HB.out | apply below_alloc | apply pw_below_drewN | apply below_drew1) | exact HB.out)) hb); clear HB; have HB := n0_; clear n0_; (try clear hb); (try clear hb2); (try clear hk); (try clear hi)) | (go_at_call 20; (with_reducible refine (galloonlaw01_awake.calls kj6  t634 _ A31.out (Glob.at hg (by repeat (first | (with_reducible first | exact HB.out | apply below_alloc | apply pw_below_drewN | apply below_drew1) | exact HB.out)))).mono ?_); rintro e w33 ⟨rfl, hb⟩; have n0_ := Aside0.mk (below_step (by repeat (first | (with_reducible first | exact HB.out | apply below_alloc | apply pw_below_drewN | apply below_drew1) | exact HB.out)) hb); clear HB; have HB := n0_; clear n0_; (try clear hb); (try clear hb2); (try clear hk); (try clear hi)))
                go_ret
                exact ⟨by first | rfl | (simp [errW_none, errW_some] <;> rfl) | (simp [*, errW_none, errW_some] <;> rfl), by repeat (first | (with_reducible first | exact HB.out | apply below_alloc | apply pw_below_drewN | apply below_drew1) | exact HB.out)⟩
              · rw [if_neg c30] at H
                have c30b0 : (t626 == 0) = false := beq_eq_false_iff_ne.mpr c30
                have c30b1 : (t626 != 0) = true := bne_iff_ne.mpr c30
                obtain rfl := Option.some.inj H
                exact absurd hr.out (by decide)
            · rw [if_neg c29] at H
              have c29b0 : (t625 == t632) = false := beq_eq_false_iff_ne.mpr c29
              have c29b1 : (t625 != t632) = true := bne_iff_ne.mpr c29
              obtain rfl := Option.some.inj H
              exact absurd hr.out (by decide)
          · replace c28 := Bool.eq_false_iff.mpr c28
            subst c28
            have H1 : (if t625 = 0 then (if t626 = 5 then ((galloonlaw01_awake.f kj6).bind fun t635 => (some t635)) else (some false)) else (some false)) = some r := by rw [if_neg (show ¬ (false = true) by decide)] at H; exact H
            clear H
            have H := H1
            clear H1
            by_cases c34 : t625 = 0
            · rw [if_pos c34] at H
              have c34b0 : (t625 == 0) = true := beq_iff_eq.mpr c34
              have c34b1 : (t625 != 0) = false := bne_eq_false_iff_eq.mpr c34
              clear c34
              by_cases c35 : t626 = 5
              · rw [if_pos c35] at H
                have c35b0 : (t626 == 5) = true := beq_iff_eq.mpr c35
                have c35b1 : (t626 != 5) = false := bne_eq_false_iff_eq.mpr c35
                clear c35
                replace H := Option.bind_eq_some_iff.mp H
                obtain ⟨t635, A360, H⟩ := H
                replace H : (some t635) = some r := H
                have A36 := Aside0.mk A360
                clear A360
                obtain rfl := Option.some.inj H
                go_wp2_with (first | ((with_reducible refine gate_callee (f := 53) rfl ?_); refine goesL_ (some 66) rfl rfl Try.func53 (by kernel_rfl) rfl #[.string t620] rfl (by (try simp only [List.map_toArray, List.map_cons, List.map_nil]); first | done | rfl | (simp only [List.length_drop, List.length_take]; rfl)) ?_; (with_reducible refine (galloonref01_Ways.calls kj6 t620 t632 false _ A27.out).mono ?_); rintro e w37 ⟨rfl, hb⟩; refine ⟨_, rfl, ?_⟩; have n0_ := Aside0.mk (below_step (by repeat (first | (with_reducible first | exact HB.out | apply below_alloc | apply pw_below_drewN | apply below_drew1) | exact HB.out)) hb); clear HB; have HB := n0_; clear n0_; (try clear hb); (try clear hb2); (try clear hk); (try clear hi)) | (go_at_call 20; (with_reducible refine (galloonlaw01_awake.calls kj6  t635 _ A36.out (Glob.at hg (by repeat (first | (with_reducible first | exact HB.out | apply below_alloc | apply pw_below_drewN | apply below_drew1) | exact HB.out)))).mono ?_); rintro e w38 ⟨rfl, hb⟩; have n0_ := Aside0.mk (below_step (by repeat (first | (with_reducible first | exact HB.out | apply below_alloc | apply pw_below_drewN | apply below_drew1) | exact HB.out)) hb); clear HB; have HB := n0_; clear n0_; (try clear hb); (try clear hb2); (try clear hk); (try clear hi)))
                go_ret
                exact ⟨by first | rfl | (simp [errW_none, errW_some] <;> rfl) | (simp [*, errW_none, errW_some] <;> rfl), by repeat (first | (with_reducible first | exact HB.out | apply below_alloc | apply pw_below_drewN | apply below_drew1) | exact HB.out)⟩
              · rw [if_neg c35] at H
                have c35b0 : (t626 == 5) = false := beq_eq_false_iff_ne.mpr c35
                have c35b1 : (t626 != 5) = true := bne_iff_ne.mpr c35
                obtain rfl := Option.some.inj H
                exact absurd hr.out (by decide)
            · rw [if_neg c34] at H
              have c34b0 : (t625 == 0) = false := beq_eq_false_iff_ne.mpr c34
              have c34b1 : (t625 != 0) = true := bne_iff_ne.mpr c34
              obtain rfl := Option.some.inj H
              exact absurd hr.out (by decide)
  · replace c6 := Bool.eq_false_iff.mpr c6
    subst c6
    have H1 : (if (t621.length : Int) = 0 then (if t622 = 2 then (if t625 = 0 then (if t626 = 2 then ((galloonlaw01_awake.f k).bind fun t628 => (some t628)) else (some false)) else (some false)) else (some false)) else (some false)) = some r := by rw [if_neg (show ¬ (false = true) by decide)] at H; exact H
    clear H
    have H := H1
    clear H1
    by_cases c39 : (t621.length : Int) = 0
    · rw [if_pos c39] at H
      have c39b0 : ((t621.length : Int) == 0) = true := beq_iff_eq.mpr c39
      have c39b1 : ((t621.length : Int) != 0) = false := bne_eq_false_iff_eq.mpr c39
      clear c39
      by_cases c40 : t622 = 2
      · rw [if_pos c40] at H
        have c40b0 : (t622 == 2) = true := beq_iff_eq.mpr c40
        have c40b1 : (t622 != 2) = false := bne_eq_false_iff_eq.mpr c40
        clear c40
        by_cases c41 : t625 = 0
        · rw [if_pos c41] at H
          have c41b0 : (t625 == 0) = true := beq_iff_eq.mpr c41
          have c41b1 : (t625 != 0) = false := bne_eq_false_iff_eq.mpr c41
          clear c41
          by_cases c42 : t626 = 2
          · rw [if_pos c42] at H
            have c42b0 : (t626 == 2) = true := beq_iff_eq.mpr c42
            have c42b1 : (t626 != 2) = false := bne_eq_false_iff_eq.mpr c42
            clear c42
            replace H := Option.bind_eq_some_iff.mp H
            obtain ⟨t628, A430, H⟩ := H
            replace H : (some t628) = some r := H
            have A43 := Aside0.mk A430
            clear A430
            obtain rfl := Option.some.inj H
            go_enter Try.func15, Try.ntmps15
            go_wp2_with (first | ((with_reducible refine gate_callee (f := 16) rfl ?_); refine goesL_ (some 11) rfl rfl Try.func16 (by kernel_rfl) rfl #[.string a0] rfl (by (try simp only [List.map_toArray, List.map_cons, List.map_nil]); first | done | rfl | (simp only [List.length_drop, List.length_take]; rfl)) ?_; (with_reducible refine (galloonlaw01_short.calls a0 t620 _ A2.out).mono ?_); rintro e w44 ⟨rfl, hb⟩; refine ⟨_, rfl, ?_⟩; have n0_ := Aside0.mk (below_step (by repeat (first | (with_reducible first | exact HB.out | apply below_alloc | apply pw_below_drewN | apply below_drew1) | exact HB.out)) hb); clear HB; have HB := n0_; clear n0_; (try clear hb); (try clear hb2); (try clear hk); (try clear hi)) | ((with_reducible refine gate_callee (f := 50) rfl ?_); refine goesL_ (some 14) rfl rfl Try.func50 (by kernel_rfl) rfl #[.string t620] rfl (by (try simp only [List.map_toArray, List.map_cons, List.map_nil]); first | done | rfl | (simp only [List.length_drop, List.length_take]; rfl)) ?_; (with_reducible refine (trim_Fewest.calls k t620 t621 t622 _ A3.out).mono ?_); rintro e w45 ⟨v623, rfl, ho0, hb⟩; refine ⟨_, rfl, ?_⟩; have n0_ := Aside0.mk (Kd.R_lower ho0 (below_size (by repeat (first | (with_reducible first | exact HB.out | apply below_alloc | apply pw_below_drewN | apply below_drew1) | exact HB.out)))); have n1_ := Aside0.mk (below_step (by repeat (first | (with_reducible first | exact HB.out | apply below_alloc | apply pw_below_drewN | apply below_drew1) | exact HB.out)) hb); clear HB; have HO624 := n0_; have HB := n1_; clear n0_ n1_; (try clear hb); (try clear hb2); (try clear hk); (try clear hi); (try clear ho0)) | ((with_reducible refine gate_callee (f := 51) rfl ?_); refine goesL_ (some 19) rfl rfl Try.func51 (by kernel_rfl) rfl #[.string t620] rfl (by (try simp only [List.map_toArray, List.map_cons, List.map_nil]); first | done | rfl | (simp only [List.length_drop, List.length_take]; rfl)) ?_; (with_reducible refine (trim_Ways.calls k t620 t625 t626 _ A4.out).mono ?_); rintro e w46 ⟨rfl, hb⟩; refine ⟨_, rfl, ?_⟩; have n0_ := Aside0.mk (Kd.R_below (by (with_reducible repeat (first | apply Kd.R_alloc | apply Kd.R_drewN | apply Kd.R_drew)); exact HO624.out) hb); have n1_ := Aside0.mk (below_step (by repeat (first | (with_reducible first | exact HB.out | apply below_alloc | apply pw_below_drewN | apply below_drew1) | exact HB.out)) hb); clear HO624; clear HB; have HO624 := n0_; have HB := n1_; clear n0_ n1_; (try clear hb); (try clear hb2); (try clear hk); (try clear hi)) | ((with_reducible refine gate_callee (f := 19) rfl ?_); refine goesL_ (some 23) rfl rfl Try.func19 (by kernel_rfl) rfl #[.string t620] rfl (by (try simp only [List.map_toArray, List.map_cons, List.map_nil]); first | done | rfl | (simp only [List.length_drop, List.length_take]; rfl)) ?_; (with_reducible refine (galloonref01_Word.calls k t620 false _ A5.out).mono ?_); rintro e w' ⟨rfl, ⟨nd, rfl⟩⟩; refine ⟨_, rfl, ?_⟩; obtain ⟨Ao47, co47, eo47⟩ := Kd.R_slice HO624.out; subst eo47) | (go_at_call 20; (with_reducible refine (galloonlaw01_awake.calls k  t628 _ A43.out (Glob.at hg (by repeat (first | (with_reducible first | exact HB.out | apply below_alloc | apply pw_below_drewN | apply below_drew1) | exact HB.out)))).mono ?_); rintro e w48 ⟨rfl, hb⟩; have n0_ := Aside0.mk (Kd.R_below (by (with_reducible repeat (first | apply Kd.R_alloc | apply Kd.R_drewN | apply Kd.R_drew)); exact HO624.out) hb); have n1_ := Aside0.mk (below_step (by repeat (first | (with_reducible first | exact HB.out | apply below_alloc | apply pw_below_drewN | apply below_drew1) | exact HB.out)) hb); clear HO624; clear HB; have HO624 := n0_; have HB := n1_; clear n0_ n1_; (try clear hb); (try clear hb2); (try clear hk); (try clear hi)))
            go_ret
            exact ⟨by first | rfl | (simp [errW_none, errW_some] <;> rfl) | (simp [*, errW_none, errW_some] <;> rfl), by repeat (first | (with_reducible first | exact HB.out | apply below_alloc | apply pw_below_drewN | apply below_drew1) | exact HB.out)⟩
          · rw [if_neg c42] at H
            have c42b0 : (t626 == 2) = false := beq_eq_false_iff_ne.mpr c42
            have c42b1 : (t626 != 2) = true := bne_iff_ne.mpr c42
            obtain rfl := Option.some.inj H
            exact absurd hr.out (by decide)
        · rw [if_neg c41] at H
          have c41b0 : (t625 == 0) = false := beq_eq_false_iff_ne.mpr c41
          have c41b1 : (t625 != 0) = true := bne_iff_ne.mpr c41
          obtain rfl := Option.some.inj H
          exact absurd hr.out (by decide)
      · rw [if_neg c40] at H
        have c40b0 : (t622 == 2) = false := beq_eq_false_iff_ne.mpr c40
        have c40b1 : (t622 != 2) = true := bne_iff_ne.mpr c40
        obtain rfl := Option.some.inj H
        exact absurd hr.out (by decide)
    · rw [if_neg c39] at H
      have c39b0 : ((t621.length : Int) == 0) = false := beq_eq_false_iff_ne.mpr c39
      have c39b1 : ((t621.length : Int) != 0) = true := bne_iff_ne.mpr c39
      have c39b2 : ¬ (t621 = []) := fun h_ => c39 (by rw [h_]; rfl)
      obtain rfl := Option.some.inj H
      exact absurd hr.out (by decide)

/-- THE ONE PURE STATEMENT of galloonlaw01_TrimParts: yours. -/
def galloonlaw01_TrimParts.Pure : Prop := ∀ (a0 : ByteArray), a0.size ≤ 140737488351232 → ∃ k, galloonlaw01_TrimParts.f k a0 = some true
theorem galloonlaw01_TrimParts.walk (P : galloonlaw01_TrimParts.Pure) (a0 : ByteArray) (w : World) (w0 : a0.size ≤ 140737488351232) (hg : Glob w) :
    Calls Try.prog 15 #[.string a0] w fun e w' => e = .returned (.bool true) ∧ Below w.heap.size w w' := by
  obtain ⟨k, h⟩ := P a0 w0
  refine (galloonlaw01_TrimParts.calls k a0 true w h ⟨rfl⟩ hg).mono ?_
  rintro e w' ⟨rfl, hd⟩
  exact ⟨rfl, hd⟩

end Go.Proofs.Ytbdlhgdfnnbjiaa.PY
