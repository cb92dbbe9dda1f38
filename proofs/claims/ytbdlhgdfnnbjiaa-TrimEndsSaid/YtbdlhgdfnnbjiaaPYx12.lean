-- Made by the session's own driver (wip/tools/p2.py) out of the translation; Lean checks it.
import Derived.Test.YtbdlhgdfnnbjiaaPYx0
import Derived.Test.YtbdlhgdfnnbjiaaPYx1
import Derived.Test.YtbdlhgdfnnbjiaaPYx3
import Derived.Test.YtbdlhgdfnnbjiaaPYx5
import Derived.Test.YtbdlhgdfnnbjiaaPYx10
import Derived.Test.YtbdlhgdfnnbjiaaPYx11
namespace Go.Proofs.Ytbdlhgdfnnbjiaa.PY
open Go.RowKit Go.Proofs.YtbdlhgdfnnbjiaaW.PrintWords Go.Proofs.YtbdlhgdfnnbjiaaW.PrintLast Go.Proofs.YtbdlhgdfnnbjiaaW.PrintMore
attribute [local go_sem] max2_int min2_int max_two min_two max_three min_three max_four min_four   -- for this text's walks alone
set_option linter.unusedVariables false
set_option linter.unusedSimpArgs false

/-! ### galloonlaw01_TrimEnds: function 3 -/
def galloonlaw01_TrimEnds.f (k : Nat) (a0 : ByteArray) : Option (Bool) := (galloonlaw01_short.f a0).bind fun t173 => ((trim_Ends.f k t173).bind fun bt174 => ((trim_Rich.f k t173).bind fun bt178 => ((galloonref01_Word.f k t173).bind fun t180 => (if t180 = true then ((galloonref01_Ends.f k t173).bind fun t182 => ((galloonlaw01_ints.f k bt174.1 t182).bind fun t185 => (if t185 = true then (if bt174.2 = 0 then ((galloonref01_Rich.f k t173).bind fun t186 => (if bt178.1 = t186 then (if bt178.2 = 0 then ((galloonlaw01_awake.f k).bind fun t187 => (some t187)) else (some false)) else (some false))) else (some false)) else (some false)))) else (if (bt174.1.length : Int) = 0 then (if bt174.2 = 2 then (if bt178.1 = 0 then (if bt178.2 = 2 then ((galloonlaw01_awake.f k).bind fun t181 => (some t181)) else (some false)) else (some false)) else (some false)) else (some false))))))
theorem galloonlaw01_TrimEnds.mono : ∀ a0 k, LeO (galloonlaw01_TrimEnds.f k a0) (galloonlaw01_TrimEnds.f (k + 1) a0) := by
  intro a0 k
  unfold galloonlaw01_TrimEnds.f
  repeat' first
      | (with_reducible exact galloonlaw01_awake.mono _)
      | (with_reducible exact galloonlaw01_ints.mono _ _ _)
      | (with_reducible exact galloonref01_Ends.mono _ _)
      | (with_reducible exact galloonref01_Rich.mono _ _)
      | (with_reducible exact galloonref01_Word.mono _ _)
      | (with_reducible exact trim_Ends.mono _ _)
      | (with_reducible exact trim_Rich.mono _ _)
      | (with_reducible exact LeO.refl _)
      | (with_reducible exact LeO.none _)
      | (with_reducible refine LeO.ite ?_ ?_)
      | (with_reducible refine LeO.bind ?_ (fun _ => ?_))
      | exact galloonlaw01_awake.mono _
      | exact galloonlaw01_ints.mono _ _ _
      | exact galloonref01_Ends.mono _ _
      | exact galloonref01_Rich.mono _ _
      | exact galloonref01_Word.mono _ _
      | exact trim_Ends.mono _ _
      | exact trim_Rich.mono _ _
      | exact LeO.none _
      | refine LeO.ite ?_ ?_
      | refine LeO.bind ?_ (fun _ => ?_)
set_option maxHeartbeats 8000000 in
set_option maxRecDepth 100000 in
theorem galloonlaw01_TrimEnds.calls (k : Nat) (a0 : ByteArray) (r : Bool) (w : World) (h : galloonlaw01_TrimEnds.f k a0 = some r) (hr : Aside0 (r = true)) (hg : Glob w) :
    Calls Try.prog 3 #[.string a0] w fun e w' => e = .returned (.bool r) ∧ Below w.heap.size w w' := by
  have HB := Aside0.mk (Below.refl w.heap.size w)
  have H : ((galloonlaw01_short.f a0).bind fun t173 => ((trim_Ends.f k t173).bind fun bt174 => ((trim_Rich.f k t173).bind fun bt178 => ((galloonref01_Word.f k t173).bind fun t180 => (if t180 = true then ((galloonref01_Ends.f k t173).bind fun t182 => ((galloonlaw01_ints.f k bt174.1 t182).bind fun t185 => (if t185 = true then (if bt174.2 = 0 then ((galloonref01_Rich.f k t173).bind fun t186 => (if bt178.1 = t186 then (if bt178.2 = 0 then ((galloonlaw01_awake.f k).bind fun t187 => (some t187)) else (some false)) else (some false))) else (some false)) else (some false)))) else (if (bt174.1.length : Int) = 0 then (if bt174.2 = 2 then (if bt178.1 = 0 then (if bt178.2 = 2 then ((galloonlaw01_awake.f k).bind fun t181 => (some t181)) else (some false)) else (some false)) else (some false)) else (some false))))))) = some r := h
  clear h
  replace H := Option.bind_eq_some_iff.mp H
  obtain ⟨t173, A20, H⟩ := H
  replace H : ((trim_Ends.f k t173).bind fun bt174 => ((trim_Rich.f k t173).bind fun bt178 => ((galloonref01_Word.f k t173).bind fun t180 => (if t180 = true then ((galloonref01_Ends.f k t173).bind fun t182 => ((galloonlaw01_ints.f k bt174.1 t182).bind fun t185 => (if t185 = true then (if bt174.2 = 0 then ((galloonref01_Rich.f k t173).bind fun t186 => (if bt178.1 = t186 then (if bt178.2 = 0 then ((galloonlaw01_awake.f k).bind fun t187 => (some t187)) else (some false)) else (some false))) else (some false)) else (some false)))) else (if (bt174.1.length : Int) = 0 then (if bt174.2 = 2 then (if bt178.1 = 0 then (if bt178.2 = 2 then ((galloonlaw01_awake.f k).bind fun t181 => (some t181)) else (some false)) else (some false)) else (some false)) else (some false)))))) = some r := H
  have A2 := Aside0.mk A20
  clear A20
  replace H := Option.bind_eq_some_iff.mp H
  obtain ⟨⟨t174, t175⟩, A30, H⟩ := H
  replace H : ((trim_Rich.f k t173).bind fun bt178 => ((galloonref01_Word.f k t173).bind fun t180 => (if t180 = true then ((galloonref01_Ends.f k t173).bind fun t182 => ((galloonlaw01_ints.f k t174 t182).bind fun t185 => (if t185 = true then (if t175 = 0 then ((galloonref01_Rich.f k t173).bind fun t186 => (if bt178.1 = t186 then (if bt178.2 = 0 then ((galloonlaw01_awake.f k).bind fun t187 => (some t187)) else (some false)) else (some false))) else (some false)) else (some false)))) else (if (t174.length : Int) = 0 then (if t175 = 2 then (if bt178.1 = 0 then (if bt178.2 = 2 then ((galloonlaw01_awake.f k).bind fun t181 => (some t181)) else (some false)) else (some false)) else (some false)) else (some false))))) = some r := H
  have A3 := Aside0.mk A30
  clear A30
  replace H := Option.bind_eq_some_iff.mp H
  obtain ⟨⟨t178, t179⟩, A40, H⟩ := H
  replace H : ((galloonref01_Word.f k t173).bind fun t180 => (if t180 = true then ((galloonref01_Ends.f k t173).bind fun t182 => ((galloonlaw01_ints.f k t174 t182).bind fun t185 => (if t185 = true then (if t175 = 0 then ((galloonref01_Rich.f k t173).bind fun t186 => (if t178 = t186 then (if t179 = 0 then ((galloonlaw01_awake.f k).bind fun t187 => (some t187)) else (some false)) else (some false))) else (some false)) else (some false)))) else (if (t174.length : Int) = 0 then (if t175 = 2 then (if t178 = 0 then (if t179 = 2 then ((galloonlaw01_awake.f k).bind fun t181 => (some t181)) else (some false)) else (some false)) else (some false)) else (some false)))) = some r := H
  have A4 := Aside0.mk A40
  clear A40
  replace H := Option.bind_eq_some_iff.mp H
  obtain ⟨t180, A50, H⟩ := H
  replace H : (if t180 = true then ((galloonref01_Ends.f k t173).bind fun t182 => ((galloonlaw01_ints.f k t174 t182).bind fun t185 => (if t185 = true then (if t175 = 0 then ((galloonref01_Rich.f k t173).bind fun t186 => (if t178 = t186 then (if t179 = 0 then ((galloonlaw01_awake.f k).bind fun t187 => (some t187)) else (some false)) else (some false))) else (some false)) else (some false)))) else (if (t174.length : Int) = 0 then (if t175 = 2 then (if t178 = 0 then (if t179 = 2 then ((galloonlaw01_awake.f k).bind fun t181 => (some t181)) else (some false)) else (some false)) else (some false)) else (some false))) = some r := H
  have A5 := Aside0.mk A50
  clear A50
  by_cases c6 : t180 = true
  · subst c6
    have H1 : ((galloonref01_Ends.f k t173).bind fun t182 => ((galloonlaw01_ints.f k t174 t182).bind fun t185 => (if t185 = true then (if t175 = 0 then ((galloonref01_Rich.f k t173).bind fun t186 => (if t178 = t186 then (if t179 = 0 then ((galloonlaw01_awake.f k).bind fun t187 => (some t187)) else (some false)) else (some false))) else (some false)) else (some false)))) = some r := by rw [if_pos rfl] at H; exact H
    clear H
    have H := H1
    clear H1
    replace H := Option.bind_eq_some_iff.mp H
    obtain ⟨t182, A70, H⟩ := H
    replace H : ((galloonlaw01_ints.f k t174 t182).bind fun t185 => (if t185 = true then (if t175 = 0 then ((galloonref01_Rich.f k t173).bind fun t186 => (if t178 = t186 then (if t179 = 0 then ((galloonlaw01_awake.f k).bind fun t187 => (some t187)) else (some false)) else (some false))) else (some false)) else (some false))) = some r := H
    have A7 := Aside0.mk A70
    clear A70
    replace H := Option.bind_eq_some_iff.mp H
    obtain ⟨t185, A80, H⟩ := H
    replace H : (if t185 = true then (if t175 = 0 then ((galloonref01_Rich.f k t173).bind fun t186 => (if t178 = t186 then (if t179 = 0 then ((galloonlaw01_awake.f k).bind fun t187 => (some t187)) else (some false)) else (some false))) else (some false)) else (some false)) = some r := H
    have A8 := Aside0.mk A80
    clear A80
    by_cases c9 : t185 = true
    · subst c9
      have H1 : (if t175 = 0 then ((galloonref01_Rich.f k t173).bind fun t186 => (if t178 = t186 then (if t179 = 0 then ((galloonlaw01_awake.f k).bind fun t187 => (some t187)) else (some false)) else (some false))) else (some false)) = some r := by rw [if_pos rfl] at H; exact H
      clear H
      have H := H1
      clear H1
      by_cases c10 : t175 = 0
      · rw [if_pos c10] at H
        have c10b0 : (t175 == 0) = true := beq_iff_eq.mpr c10
        have c10b1 : (t175 != 0) = false := bne_eq_false_iff_eq.mpr c10
        clear c10
        replace H := Option.bind_eq_some_iff.mp H
        obtain ⟨t186, A110, H⟩ := H
        replace H : (if t178 = t186 then (if t179 = 0 then ((galloonlaw01_awake.f k).bind fun t187 => (some t187)) else (some false)) else (some false)) = some r := H
        have A11 := Aside0.mk A110
        clear A110
        by_cases c12 : t178 = t186
        · rw [if_pos c12] at H
          have c12b0 : (t178 == t186) = true := beq_iff_eq.mpr c12
          have c12b1 : (t178 != t186) = false := bne_eq_false_iff_eq.mpr c12
          clear c12
          by_cases c13 : t179 = 0
          · rw [if_pos c13] at H
            have c13b0 : (t179 == 0) = true := beq_iff_eq.mpr c13
            have c13b1 : (t179 != 0) = false := bne_eq_false_iff_eq.mpr c13
            clear c13
            replace H := Option.bind_eq_some_iff.mp H
            obtain ⟨t187, A140, H⟩ := H
            replace H : (some t187) = some r := H
            have A14 := Aside0.mk A140
            clear A140
            obtain rfl := Option.some.inj H
            go_enter Try.func3, Try.ntmps3
            go_wp2_with (first | ((with_reducible refine gate_callee (f := 16) rfl ?_); refine goesL_ (some 9) rfl rfl Try.func16 (by kernel_rfl) rfl #[.string a0] rfl (by (try simp only [List.map_toArray, List.map_cons, List.map_nil]); first | done | rfl | (simp only [List.length_drop, List.length_take]; rfl)) ?_; (with_reducible refine (galloonlaw01_short.calls a0 t173 _ A2.out).mono ?_); rintro e w15 ⟨rfl, hb⟩; refine ⟨_, rfl, ?_⟩; have n0_ := Aside0.mk (below_step (by repeat (first | (with_reducible first | exact HB.out | apply below_alloc | apply pw_below_drewN | apply below_drew1) | exact HB.out)) hb); clear HB; have HB := n0_; clear n0_; (try clear hb); (try clear hb2); (try clear hk); (try clear hi)) | ((with_reducible refine gate_callee (f := 17) rfl ?_); refine goesL_ (some 12) rfl rfl Try.func17 (by kernel_rfl) rfl #[.string t173] rfl (by (try simp only [List.map_toArray, List.map_cons, List.map_nil]); first | done | rfl | (simp only [List.length_drop, List.length_take]; rfl)) ?_; (with_reducible refine (trim_Ends.calls k t173 t174 t175 _ A3.out).mono ?_); rintro e w16 ⟨v176, rfl, ho0, hb⟩; refine ⟨_, rfl, ?_⟩; have n0_ := Aside0.mk (Kd.R_lower ho0 (below_size (by repeat (first | (with_reducible first | exact HB.out | apply below_alloc | apply pw_below_drewN | apply below_drew1) | exact HB.out)))); have n1_ := Aside0.mk (below_step (by repeat (first | (with_reducible first | exact HB.out | apply below_alloc | apply pw_below_drewN | apply below_drew1) | exact HB.out)) hb); clear HB; have HO177 := n0_; have HB := n1_; clear n0_ n1_; (try clear hb); (try clear hb2); (try clear hk); (try clear hi); (try clear ho0)) | ((with_reducible refine gate_callee (f := 18) rfl ?_); refine goesL_ (some 17) rfl rfl Try.func18 (by kernel_rfl) rfl #[.string t173] rfl (by (try simp only [List.map_toArray, List.map_cons, List.map_nil]); first | done | rfl | (simp only [List.length_drop, List.length_take]; rfl)) ?_; (with_reducible refine (trim_Rich.calls k t173 t178 t179 _ A4.out (Glob.at hg (by repeat (first | (with_reducible first | exact HB.out | apply below_alloc | apply pw_below_drewN | apply below_drew1) | exact HB.out)))).mono ?_); rintro e w17 ⟨rfl, hb⟩; refine ⟨_, rfl, ?_⟩; have n0_ := Aside0.mk (Kd.R_below (by (with_reducible repeat (first | apply Kd.R_alloc | apply Kd.R_drewN | apply Kd.R_drew)); exact HO177.out) hb); have n1_ := Aside0.mk (below_step (by repeat (first | (with_reducible first | exact HB.out | apply below_alloc | apply pw_below_drewN | apply below_drew1) | exact HB.out)) hb); clear HO177; clear HB; have HO177 := n0_; have HB := n1_; clear n0_ n1_; (try clear hb); (try clear hb2); (try clear hk); (try clear hi)) | ((with_reducible refine gate_callee (f := 19) rfl ?_); refine goesL_ (some 21) rfl rfl Try.func19 (by kernel_rfl) rfl #[.string t173] rfl (by (try simp only [List.map_toArray, List.map_cons, List.map_nil]); first | done | rfl | (simp only [List.length_drop, List.length_take]; rfl)) ?_; (with_reducible refine (galloonref01_Word.calls k t173 true _ A5.out).mono ?_); rintro e w' ⟨rfl, ⟨nd, rfl⟩⟩; refine ⟨_, rfl, ?_⟩) | ((with_reducible refine gate_callee (f := 22) rfl ?_); refine goesL_ (some 43) rfl rfl Try.func22 (by kernel_rfl) rfl #[.string t173] rfl (by (try simp only [List.map_toArray, List.map_cons, List.map_nil]); first | done | rfl | (simp only [List.length_drop, List.length_take]; rfl)) ?_; (with_reducible refine (galloonref01_Ends.calls k t173 t182 _ A7.out).mono ?_); rintro e w18 ⟨v183, rfl, ho0, hb⟩; refine ⟨_, rfl, ?_⟩; have n0_ := Aside0.mk (Kd.R_elder' (by (with_reducible repeat (first | apply Kd.R_alloc | apply Kd.R_drewN | apply Kd.R_drew)); exact HO177.out) (Kd.R_base ho0) hb); have n1_ := Aside0.mk (Kd.R_lower (Kd.R_new' ho0 (Kd.R_lt (by (with_reducible repeat (first | apply Kd.R_alloc | apply Kd.R_drewN | apply Kd.R_drew)); exact HO177.out))) (below_size (by repeat (first | (with_reducible first | exact HB.out | apply below_alloc | apply pw_below_drewN | apply below_drew1) | exact HB.out)))); have n2_ := Aside0.mk (below_step (by repeat (first | (with_reducible first | exact HB.out | apply below_alloc | apply pw_below_drewN | apply below_drew1) | exact HB.out)) hb); clear HO177; clear HB; have HO177 := n0_; have HO184 := n1_; have HB := n2_; clear n0_ n1_ n2_; (try clear hb); (try clear hb2); (try clear hk); (try clear hi); (try clear ho0); obtain ⟨Ao19, co19, eo19⟩ := Kd.R_slice HO177.out; subst eo19; obtain ⟨Ao20, co20, eo20⟩ := Kd.R_slice HO184.out; subst eo20) | ((with_reducible refine gate_callee (f := 21) rfl ?_); refine goesL_ (some 44) rfl rfl Try.func21 (by kernel_rfl) rfl #[.slice Ao19 t174.length co19, .slice Ao20 t182.length co20] rfl (by (try simp only [List.map_toArray, List.map_cons, List.map_nil]); first | done | rfl | (simp only [List.length_drop, List.length_take]; rfl)) ?_; (with_reducible refine (galloonlaw01_ints.calls k _ _ t174 _ _ t182 true _ ?side1 ?side2 ?side3 ?side4 A8.out).mono ?_); (case side1 => repeat (first | exact (Kd.R_reads' HO177.out).2.2 | (with_reducible refine Kd.C_alloc ?_ _) | (with_reducible refine Kd.C_drewN ?_ _) | (with_reducible refine Kd.C_drew ?_))); (case side2 => exact (Kd.R_reads' HO177.out).2.1); (case side3 => repeat (first | exact (Kd.R_reads' HO184.out).2.2 | (with_reducible refine Kd.C_alloc ?_ _) | (with_reducible refine Kd.C_drewN ?_ _) | (with_reducible refine Kd.C_drew ?_))); (case side4 => exact (Kd.R_reads' HO184.out).2.1); rintro e w' ⟨rfl, ⟨nd, rfl⟩⟩; refine ⟨_, rfl, ?_⟩) | (go_at_call 23; (with_reducible refine (galloonref01_Rich.calls k t173 t186 _ A11.out).mono ?_); rintro e w21 ⟨rfl, hb⟩; have n0_ := Aside0.mk (Kd.R_below (by (with_reducible repeat (first | apply Kd.R_alloc | apply Kd.R_drewN | apply Kd.R_drew)); exact HO177.out) hb); have n1_ := Aside0.mk (Kd.R_below (by (with_reducible repeat (first | apply Kd.R_alloc | apply Kd.R_drewN | apply Kd.R_drew)); exact HO184.out) hb); have n2_ := Aside0.mk (below_step (by repeat (first | (with_reducible first | exact HB.out | apply below_alloc | apply pw_below_drewN | apply below_drew1) | exact HB.out)) hb); clear HO177; clear HO184; clear HB; have HO177 := n0_; have HO184 := n1_; have HB := n2_; clear n0_ n1_ n2_; (try clear hb); (try clear hb2); (try clear hk); (try clear hi)) | (go_at_call 20; (with_reducible refine (galloonlaw01_awake.calls k  t187 _ A14.out (Glob.at hg (by repeat (first | (with_reducible first | exact HB.out | apply below_alloc | apply pw_below_drewN | apply below_drew1) | exact HB.out)))).mono ?_); rintro e w22 ⟨rfl, hb⟩; have n0_ := Aside0.mk (Kd.R_below (by (with_reducible repeat (first | apply Kd.R_alloc | apply Kd.R_drewN | apply Kd.R_drew)); exact HO177.out) hb); have n1_ := Aside0.mk (Kd.R_below (by (with_reducible repeat (first | apply Kd.R_alloc | apply Kd.R_drewN | apply Kd.R_drew)); exact HO184.out) hb); have n2_ := Aside0.mk (below_step (by repeat (first | (with_reducible first | exact HB.out | apply below_alloc | apply pw_below_drewN | apply below_drew1) | exact HB.out)) hb); clear HO177; clear HO184; clear HB; have HO177 := n0_; have HO184 := n1_; have HB := n2_; clear n0_ n1_ n2_; (try clear hb); (try clear hb2); (try clear hk); (try clear hi)))
            go_ret
            exact ⟨by first | rfl | (simp [errW_none, errW_some] <;> rfl) | (simp [*, errW_none, errW_some] <;> rfl), by repeat (first | (with_reducible first | exact HB.out | apply below_alloc | apply pw_below_drewN | apply below_drew1) | exact HB.out)⟩
          · rw [if_neg c13] at H
            have c13b0 : (t179 == 0) = false := beq_eq_false_iff_ne.mpr c13
            have c13b1 : (t179 != 0) = true := bne_iff_ne.mpr c13
            obtain rfl := Option.some.inj H
            exact absurd hr.out (by decide)
        · rw [if_neg c12] at H
          have c12b0 : (t178 == t186) = false := beq_eq_false_iff_ne.mpr c12
          have c12b1 : (t178 != t186) = true := bne_iff_ne.mpr c12
          obtain rfl := Option.some.inj H
          exact absurd hr.out (by decide)
      · rw [if_neg c10] at H
        have c10b0 : (t175 == 0) = false := beq_eq_false_iff_ne.mpr c10
        have c10b1 : (t175 != 0) = true := bne_iff_ne.mpr c10
        obtain rfl := Option.some.inj H
        exact absurd hr.out (by decide)
    · replace c9 := Bool.eq_false_iff.mpr c9
      subst c9
      have H1 : (some false) = some r := by rw [if_neg (show ¬ (false = true) by decide)] at H; exact H
      clear H
      have H := H1
      clear H1
      obtain rfl := Option.some.inj H
      exact absurd hr.out (by decide)
  · replace c6 := Bool.eq_false_iff.mpr c6
    subst c6
    have H1 : (if (t174.length : Int) = 0 then (if t175 = 2 then (if t178 = 0 then (if t179 = 2 then ((galloonlaw01_awake.f k).bind fun t181 => (some t181)) else (some false)) else (some false)) else (some false)) else (some false)) = some r := by rw [if_neg (show ¬ (false = true) by decide)] at H; exact H
    clear H
    have H := H1
    clear H1
    by_cases c23 : (t174.length : Int) = 0
    · rw [if_pos c23] at H
      have c23b0 : ((t174.length : Int) == 0) = true := beq_iff_eq.mpr c23
      have c23b1 : ((t174.length : Int) != 0) = false := bne_eq_false_iff_eq.mpr c23
      clear c23
      by_cases c24 : t175 = 2
      · rw [if_pos c24] at H
        have c24b0 : (t175 == 2) = true := beq_iff_eq.mpr c24
        have c24b1 : (t175 != 2) = false := bne_eq_false_iff_eq.mpr c24
        clear c24
        by_cases c25 : t178 = 0
        · rw [if_pos c25] at H
          have c25b0 : (t178 == 0) = true := beq_iff_eq.mpr c25
          have c25b1 : (t178 != 0) = false := bne_eq_false_iff_eq.mpr c25
          clear c25
          by_cases c26 : t179 = 2
          · rw [if_pos c26] at H
            have c26b0 : (t179 == 2) = true := beq_iff_eq.mpr c26
            have c26b1 : (t179 != 2) = false := bne_eq_false_iff_eq.mpr c26
            clear c26
            replace H := Option.bind_eq_some_iff.mp H
            obtain ⟨t181, A270, H⟩ := H
            replace H : (some t181) = some r := H
            have A27 := Aside0.mk A270
            clear A270
            obtain rfl := Option.some.inj H
            go_enter Try.func3, Try.ntmps3
            go_wp2_with (first | ((with_reducible refine gate_callee (f := 16) rfl ?_); refine goesL_ (some 9) rfl rfl Try.func16 (by kernel_rfl) rfl #[.string a0] rfl (by (try simp only [List.map_toArray, List.map_cons, List.map_nil]); first | done | rfl | (simp only [List.length_drop, List.length_take]; rfl)) ?_; (with_reducible refine (galloonlaw01_short.calls a0 t173 _ A2.out).mono ?_); rintro e w28 ⟨rfl, hb⟩; refine ⟨_, rfl, ?_⟩; have n0_ := Aside0.mk (below_step (by repeat (first | (with_reducible first | exact HB.out | apply below_alloc | apply pw_below_drewN | apply below_drew1) | exact HB.out)) hb); clear HB; have HB := n0_; clear n0_; (try clear hb); (try clear hb2); (try clear hk); (try clear hi)) | ((with_reducible refine gate_callee (f := 17) rfl ?_); refine goesL_ (some 12) rfl rfl Try.func17 (by kernel_rfl) rfl #[.string t173] rfl (by (try simp only [List.map_toArray, List.map_cons, List.map_nil]); first | done | rfl | (simp only [List.length_drop, List.length_take]; rfl)) ?_; (with_reducible refine (trim_Ends.calls k t173 t174 t175 _ A3.out).mono ?_); rintro e w29 ⟨v176, rfl, ho0, hb⟩; refine ⟨_, rfl, ?_⟩; have n0_ := Aside0.mk (Kd.R_lower ho0 (below_size (by repeat (first | (with_reducible first | exact HB.out | apply below_alloc | apply pw_below_drewN | apply below_drew1) | exact HB.out)))); have n1_ := Aside0.mk (below_step (by repeat (first | (with_reducible first | exact HB.out | apply below_alloc | apply pw_below_drewN | apply below_drew1) | exact HB.out)) hb); clear HB; have HO177 := n0_; have HB := n1_; clear n0_ n1_; (try clear hb); (try clear hb2); (try clear hk); (try clear hi); (try clear ho0)) | ((with_reducible refine gate_callee (f := 18) rfl ?_); refine goesL_ (some 17) rfl rfl Try.func18 (by kernel_rfl) rfl #[.string t173] rfl (by (try simp only [List.map_toArray, List.map_cons, List.map_nil]); first | done | rfl | (simp only [List.length_drop, List.length_take]; rfl)) ?_; (with_reducible refine (trim_Rich.calls k t173 t178 t179 _ A4.out (Glob.at hg (by repeat (first | (with_reducible first | exact HB.out | apply below_alloc | apply pw_below_drewN | apply below_drew1) | exact HB.out)))).mono ?_); rintro e w30 ⟨rfl, hb⟩; refine ⟨_, rfl, ?_⟩; have n0_ := Aside0.mk (Kd.R_below (by (with_reducible repeat (first | apply Kd.R_alloc | apply Kd.R_drewN | apply Kd.R_drew)); exact HO177.out) hb); have n1_ := Aside0.mk (below_step (by repeat (first | (with_reducible first | exact HB.out | apply below_alloc | apply pw_below_drewN | apply below_drew1) | exact HB.out)) hb); clear HO177; clear HB; have HO177 := n0_; have HB := n1_; clear n0_ n1_; (try clear hb); (try clear hb2); (try clear hk); (try clear hi)) | ((with_reducible refine gate_callee (f := 19) rfl ?_); refine goesL_ (some 21) rfl rfl Try.func19 (by kernel_rfl) rfl #[.string t173] rfl (by (try simp only [List.map_toArray, List.map_cons, List.map_nil]); first | done | rfl | (simp only [List.length_drop, List.length_take]; rfl)) ?_; (with_reducible refine (galloonref01_Word.calls k t173 false _ A5.out).mono ?_); rintro e w' ⟨rfl, ⟨nd, rfl⟩⟩; refine ⟨_, rfl, ?_⟩; obtain ⟨Ao31, co31, eo31⟩ := Kd.R_slice HO177.out; subst eo31) | (go_at_call 20; (with_reducible refine (galloonlaw01_awake.calls k  t181 _ A27.out (Glob.at hg (by repeat (first | (with_reducible first | exact HB.out | apply below_alloc | apply pw_below_drewN | apply below_drew1) | exact HB.out)))).mono ?_); rintro e w32 ⟨rfl, hb⟩; have n0_ := Aside0.mk (Kd.R_below (by (with_reducible repeat (first | apply Kd.R_alloc | apply Kd.R_drewN | apply Kd.R_drew)); exact HO177.out) hb); have n1_ := Aside0.mk (below_step (by repeat (first | (with_reducible first | exact HB.out | apply below_alloc | apply pw_below_drewN | apply below_drew1) | exact HB.out)) hb); clear HO177; clear HB; have HO177 := n0_; have HB := n1_; clear n0_ n1_; (try clear hb); (try clear hb2); (try clear hk); (try clear hi)))
            go_ret
            exact ⟨by first | rfl | (simp [errW_none, errW_some] <;> rfl) | (simp [*, errW_none, errW_some] <;> rfl), by repeat (first | (with_reducible first | exact HB.out | apply below_alloc | apply pw_below_drewN | apply below_drew1) | exact HB.out)⟩
          · rw [if_neg c26] at H
            have c26b0 : (t179 == 2) = false := beq_eq_false_iff_ne.mpr c26
            have c26b1 : (t179 != 2) = true := bne_iff_ne.mpr c26
            obtain rfl := Option.some.inj H
            exact absurd hr.out (by decide)
        · rw [if_neg c25] at H
          have c25b0 : (t178 == 0) = false := beq_eq_false_iff_ne.mpr c25
          have c25b1 : (t178 != 0) = true := bne_iff_ne.mpr c25
          obtain rfl := Option.some.inj H
          exact absurd hr.out (by decide)
      · rw [if_neg c24] at H
        have c24b0 : (t175 == 2) = false := beq_eq_false_iff_ne.mpr c24
        have c24b1 : (t175 != 2) = true := bne_iff_ne.mpr c24
        obtain rfl := Option.some.inj H
        exact absurd hr.out (by decide)
    · rw [if_neg c23] at H
      have c23b0 : ((t174.length : Int) == 0) = false := beq_eq_false_iff_ne.mpr c23
      have c23b1 : ((t174.length : Int) != 0) = true := bne_iff_ne.mpr c23
      have c23b2 : ¬ (t174 = []) := fun h_ => c23 (by rw [h_]; rfl)
      obtain rfl := Option.some.inj H
      exact absurd hr.out (by decide)

/-- THE ONE PURE STATEMENT of galloonlaw01_TrimEnds: yours. -/
def galloonlaw01_TrimEnds.Pure : Prop := ∀ (a0 : ByteArray), a0.size ≤ 140737488351232 → ∃ k, galloonlaw01_TrimEnds.f k a0 = some true
theorem galloonlaw01_TrimEnds.walk (P : galloonlaw01_TrimEnds.Pure) (a0 : ByteArray) (w : World) (w0 : a0.size ≤ 140737488351232) (hg : Glob w) :
    Calls Try.prog 3 #[.string a0] w fun e w' => e = .returned (.bool true) ∧ Below w.heap.size w w' := by
  obtain ⟨k, h⟩ := P a0 w0
  refine (galloonlaw01_TrimEnds.calls k a0 true w h ⟨rfl⟩ hg).mono ?_
  rintro e w' ⟨rfl, hd⟩
  exact ⟨rfl, hd⟩

end Go.Proofs.Ytbdlhgdfnnbjiaa.PY
