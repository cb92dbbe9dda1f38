/- The walk of yard.Fold: what it computes, as a Lean function. -/
import Derived.Test.YthjodhmkmjabbaaPYx2
import Derived.Test.YthjodhmkmjabbaaGRange
namespace Go.Proofs.Ythjodhmkmjabbaa.PY
open Go.RowKit Go.Shelf Go.Proofs.YthjodhmkmjabbaaW.PrintWords Go.Proofs.YthjodhmkmjabbaaW.PrintLast Go.Proofs.YthjodhmkmjabbaaW.PrintMore
attribute [local go_sem] Oper.semAt_some
set_option linter.unusedVariables false
set_option linter.unusedSimpArgs false
def badQ (q : Int) : Bool := !(decide (1 ≤ q) && decide (q ≤ 1000000))
theorem within_badQ (q : Int) : yard_within.f q 1 1000000 = some (!badQ q) := by
  unfold yard_within.f badQ
  by_cases h : 1 ≤ q
  · rw [if_pos h]; simp [h]
  · rw [if_neg (by omega)]; simp [h]
theorem fold77.calls (q : Int) (w : World) : Calls Try.prog 77 #[.int .i64 q] w fun e w' => e = .returned (.bool (badQ q)) ∧ Drawn0 w w' := by
  have A1 := Aside0.mk (within_badQ q)
  go_enter Try.func77, Try.ntmps77
  go_wp2_with (go_at_call 78; (with_reducible refine (yard_within.calls q 1 1000000 (!badQ q) _ A1.out).mono ?_); rintro e w1 ⟨rfl, ⟨nd, rfl⟩⟩)
  go_ret
  exact ⟨by simp, ⟨nd, rfl⟩⟩
theorem any_take_succ (p : Int → Bool) (l : List Int) (j : Nat) (h : j < l.length) : (l.take (j + 1)).any p = ((l.take j).any p || p (rd l j)) := by
  rw [List.take_succ_eq_append_getElem h, List.any_append]
  simp [rd, h]
set_option maxHeartbeats 4000000 in
set_option maxRecDepth 100000 in
theorem indexF.calls (A : Option Addr) (c : Nat) (l : List Int) (w : World) (hr : Kd.C (Kd.int .i64) w A l.length l) (hc : l.length ≤ c) :
    Calls Try.prog 89 #[.slice A l.length c, .func (.func 77) #[] #[]] w fun e w' => ∃ i : Int, e = .returned (.int .i64 i) ∧ decide (0 ≤ i) = l.any badQ ∧ Drawn0 w w' := by
  have HR := Aside0.mk hr
  have hmax : l.length ≤ 9223372036854775807 := Kd.C_max hr
  clear hr
  go_enter Try.func89, Try.ntmps89
  go_wp2
  go_loopw [8] (fun v8 wr => ∃ (j : Nat), v8 = .int .i64 j ∧ j ≤ l.length ∧ Aside0 ((l.take j).any badQ = false) ∧ Drawn0 w wr) (fun v8 _ => l.length - (intOf v8).toNat)
  case atStart => exact ⟨0, rfl, by omega, ⟨by simp⟩, Drawn0.refl _⟩
  case round =>
    obtain ⟨j, rfl, hj, hany, ⟨m1, rfl⟩⟩ := hrel
    by_cases hlt : j < l.length
    · have p0 : (0 : Int) ≤ (j : Int) := by omega
      have q0 : (j : Int) < (l.length : Int) := by omega
      obtain ⟨ad, e, hx⟩ := Kd.at_int HR.out (j : Int) p0 q0
      cases e
      obtain ⟨q, hq⟩ : ∃ q, rd l j = q := ⟨_, rfl⟩
      rw [hq] at hx
      simp only [Int.toNat_natCast] at hx
      have hsucc := any_take_succ badQ l j hlt
      rw [hany.out, hq, Bool.false_or] at hsucc
      have hsucc := Aside0.mk hsucc
      have hq := Aside0.mk hq
      cases hb : badQ q with
      | true =>
        have hb := Aside0.mk hb
        have hbr : ∀ w, Calls Try.prog 77 #[.int .i64 q] w fun e w' => e = .returned (.bool true) ∧ Drawn0 w w' := fun w => by have := fold77.calls q w; rwa [hb.out] at this
        have hbr := Aside0.mk hbr
        go_wp2_with (go_at_call 77; (with_reducible refine (hbr.out _).mono ?_); rintro e w1 ⟨rfl, ⟨nd, rfl⟩⟩)
        go_ret
        refine ⟨j, rfl, ?_, by repeat (first | exact Drawn0.refl _ | apply Drawn0.step)⟩
        have h1 : l.any badQ = true := by
          rw [List.any_eq_true]
          have h2 : (l.take (j + 1)).any badQ = true := by rw [hsucc.out, hb.out]
          obtain ⟨x, hx1, hx2⟩ := List.any_eq_true.1 h2
          exact ⟨x, List.mem_of_mem_take hx1, hx2⟩
        rw [h1]
        simp
      | false =>
        have hb := Aside0.mk hb
        have hbr : ∀ w, Calls Try.prog 77 #[.int .i64 q] w fun e w' => e = .returned (.bool false) ∧ Drawn0 w w' := fun w => by have := fold77.calls q w; rwa [hb.out] at this
        have hbr := Aside0.mk hbr
        go_wp2_with (go_at_call 77; (with_reducible refine (hbr.out _).mono ?_); rintro e w1 ⟨rfl, ⟨nd, rfl⟩⟩)
        go_roundw
        case rel => exact ⟨j + 1, by go_num, by omega, ⟨by rw [hsucc.out, hb.out]⟩, by repeat (first | exact Drawn0.refl _ | apply Drawn0.step)⟩
        case measure => simp [intOf]; omega
    · go_wp2
      go_ret
      refine ⟨-1, rfl, ?_, by repeat (first | exact Drawn0.refl _ | apply Drawn0.step)⟩
      have h1 : l.take j = l := List.take_of_length_le (by omega)
      have h2 := hany.out
      rw [h1] at h2
      rw [h2]
      decide
theorem containsF.calls (A : Option Addr) (c : Nat) (l : List Int) (w : World) (hr : Kd.C (Kd.int .i64) w A l.length l) (hc : l.length ≤ c) :
    Calls Try.prog 76 #[.slice A l.length c, .func (.func 77) #[] #[]] w fun e w' => e = .returned (.bool (l.any badQ)) ∧ Drawn0 w w' := by
  have HR := Aside0.mk hr
  clear hr
  go_enter Try.func76, Try.ntmps76
  go_wp2_with (go_at_call 89; (with_reducible refine (indexF.calls A c l _ HR.out hc).mono ?_); rintro e w1 ⟨i, rfl, hi, ⟨nd, rfl⟩⟩; have hi := Aside0.mk hi)
  go_ret
  exact ⟨by first | rfl | (simp; done) | rw [hi.out], by repeat (first | exact Drawn0.refl _ | apply Drawn0.step)⟩
theorem containsFb (A : Option Addr) (c : Nat) (l : List Int) (b : Bool) (w : World) (hr : Kd.C (Kd.int .i64) w A l.length l) (hc : l.length ≤ c) (hb : l.any badQ = b) :
    Calls Try.prog 76 #[.slice A l.length c, .func (.func 77) #[] #[]] w fun e w' => e = .returned (.bool b) ∧ Drawn0 w w' := by rw [← hb]; exact containsF.calls A c l w hr hc
def yard_Fold.l0 : Nat → List Int → Int → Int → Int → Option (Int × Int × Int)
  | 0, _, _, _, _ => none
  | k + 1, l, i, x0, x1 =>
    if i < 0 then some (x0, x1, 0)
    else if wrap64 (wrap64 (rd l i * x1) + x0) > 1000000 then some (0, 0, 5)
    else yard_Fold.l0 k l (i - 1) x1 (wrap64 (wrap64 (rd l i * x1) + x0))
def yard_Fold.f (k : Nat) (l : List Int) : Option (Int × Int × Int) :=
  if (l.length : Int) > 40 then some (0, 0, 2)
  else if (l.length : Int) > 1 then
    (if rd l ((l.length : Int) - 1) = 1 then some (0, 0, 2) else if l.any badQ = true then some (0, 0, 2) else yard_Fold.l0 k l ((l.length : Int) - 1) 0 1)
  else if l.any badQ = true then some (0, 0, 2) else yard_Fold.l0 k l ((l.length : Int) - 1) 0 1
theorem yard_Fold.mono_l : ∀ k, (∀ y0 y1 y2 y3, LeO (yard_Fold.l0 k y0 y1 y2 y3) (yard_Fold.l0 (k + 1) y0 y1 y2 y3))
  | 0 => fun _ _ _ _ r h => by simp [yard_Fold.l0] at h
  | k + 1 => by
    have ih0 := yard_Fold.mono_l k
    · intro y0 y1 y2 y3
      unfold yard_Fold.l0
      repeat' first
      | (with_reducible exact ih0 _ _ _ _)
      | (with_reducible exact LeO.refl _)
      | (with_reducible refine LeO.ite ?_ ?_)
theorem yard_Fold.mono : ∀ a0 k, LeO (yard_Fold.f k a0) (yard_Fold.f (k + 1) a0) := by
  intro a0 k
  have ih0 := yard_Fold.mono_l k
  unfold yard_Fold.f
  repeat' first
      | (with_reducible exact ih0 _ _ _ _)
      | (with_reducible exact LeO.refl _)
      | (with_reducible refine LeO.ite ?_ ?_)
theorem backward.calls (A : Option Addr) (n c : Nat) (w : World) :
    Calls Try.prog 79 #[.slice A n c] w fun e w' => e = .returned (.func (.func 90) #[] #[.pointer (some ⟨w.heap.size, 0, none⟩)]) ∧ w' = w.alloc (.cells #[.slice A n c] 27 (0, 0)) := by
  go_enter Try.func79, Try.ntmps79
  go_wp2
  go_ret
  exact ⟨rfl, rfl⟩
set_option maxHeartbeats 16000000 in
set_option maxRecDepth 100000 in
theorem yard_Fold.calls (k : Nat) (A0 : Option Addr) (c0 : Nat) (l0 : List Int) (r1 r2 r3 : Int) (w : World) (hr0 : Kd.C (Kd.int .i64) w A0 l0.length l0) (hc0 : l0.length ≤ c0) (h : yard_Fold.f k l0 = some (r1, r2, r3)) :
    Calls Try.prog 49 #[.slice A0 l0.length c0] w fun e w' => e = .returned (.tuple #[.agg #[.int .i64 r1, .int .i64 r2], .int .i64 r3]) ∧ Below w.heap.size w w' := by
  have hu23 := Try.underlying23
  have HR := Aside0.mk hr0
  clear hr0
  have hmax : l0.length ≤ 9223372036854775807 := Kd.C_max HR.out
  unfold yard_Fold.f at h
  by_cases c1 : (l0.length : Int) > 40
  · rw [if_pos c1] at h
    have c1b : decide (40 < (l0.length : Int)) = true := decide_eq_true c1
    have c1n : 40 < l0.length := by omega
    simp only [Option.some.injEq, Prod.mk.injEq] at h
    obtain ⟨rfl, rfl, rfl⟩ := h
    go_enter Try.func49, Try.ntmps49
    go_wp2_with (fail)
    exact bodyPost_ret (v := .tuple #[.agg #[.int .i64 0, .int .i64 0], .int .i64 2]) (by simp [results, Try.results49, go_sem]) rfl ⟨rfl, by repeat (first | (with_reducible first | exact Below.refl _ _ | apply below_alloc | apply pw_below_drewN | apply below_drew1 | refine below_set ?_ (by omega)))⟩
  · rw [if_neg c1] at h
    have c1b : decide (40 < (l0.length : Int)) = false := decide_eq_false c1
    have c1n : l0.length ≤ 40 := by omega
    clear c1
    by_cases c2 : (l0.length : Int) > 1
    · rw [if_pos c2] at h
      have c2b : decide (1 < (l0.length : Int)) = true := decide_eq_true c2
      have c2n : 1 < l0.length := by omega
      obtain ⟨ad, e, hx⟩ := Kd.at_int (Kd.C_alloc (Kd.C_alloc HR.out (.cells #[.int .i64 0, .int .i64 0] 23 (0, 0))) (.cells #[.int .i64 0] 24 (0, 0))) ((l0.length : Int) - 1) (by omega) (by omega)
      cases e
      obtain ⟨q, hq⟩ : ∃ q, rd l0 ((l0.length : Int) - 1) = q := ⟨_, rfl⟩
      rw [hq] at hx h
      clear hq c2
      rw [show ((l0.length : Int) - 1).toNat = l0.length - 1 from by omega] at hx
      have hidx : ((l0.length : Int) - 1) = ((l0.length - 1 : Nat) : Int) := by omega
      by_cases c3 : q = 1
      · rw [if_pos c3] at h
        have c3b : (q == 1) = true := beq_iff_eq.mpr c3
        have p0 : 0 ≤ (l0.length : Int) - 1 := by omega
        clear c3 hidx
        simp only [Option.some.injEq, Prod.mk.injEq] at h
        obtain ⟨rfl, rfl, rfl⟩ := h
        go_enter Try.func49, Try.ntmps49
        go_wp2_with (fail)
        exact bodyPost_ret (v := .tuple #[.agg #[.int .i64 0, .int .i64 0], .int .i64 2]) (by simp [results, Try.results49, go_sem]) rfl ⟨rfl, by repeat (first | (with_reducible first | exact Below.refl _ _ | apply below_alloc | apply pw_below_drewN | apply below_drew1 | refine below_set ?_ (by omega)))⟩
      · rw [if_neg c3] at h
        have c3b : (q == 1) = false := beq_eq_false_iff_ne.mpr c3
        have p0 : 0 ≤ (l0.length : Int) - 1 := by omega
        clear hidx
        cases hany : l0.any badQ with
        | true =>
          rw [if_pos hany] at h
          have hany := Aside0.mk hany
          simp only [Option.some.injEq, Prod.mk.injEq] at h
          obtain ⟨rfl, rfl, rfl⟩ := h
          go_enter Try.func49, Try.ntmps49
          go_wp2_with (go_at_call 76; (with_reducible refine (containsFb (some ad) c0 l0 true _ (by exact Kd.C_alloc (Kd.C_alloc HR.out _) _) hc0 hany.out).mono ?_); rintro e w1 ⟨rfl, ⟨nd, rfl⟩⟩)
          exact bodyPost_ret (v := .tuple #[.agg #[.int .i64 0, .int .i64 0], .int .i64 2]) (by simp [results, Try.results49, go_sem]) rfl ⟨rfl, by repeat (first | (with_reducible first | exact Below.refl _ _ | apply below_alloc | apply pw_below_drewN | apply below_drew1 | refine below_set ?_ (by omega)))⟩
        | false =>
          rw [if_neg (by rw [hany]; decide)] at h
          have hany := Aside0.mk hany
          have H' := Aside0.mk h
          clear h
          refine (callsIn_wide (n := 3)).1 ?_
          refine callsIn_of_wp_marks Try.func49 rfl trivial ?_
          simp only [Try.ntmps49, List.size_toArray, List.length_cons, List.length_nil, Nat.reduceAdd, Nat.reduceSub, Array.replicate_succ, Array.replicate_zero, List.push_toArray, List.append_toArray, List.nil_append, List.cons_append]
          gi_wp2_with (first | (refine ⟨trivial, ?_⟩; gi_at_call 76; (with_reducible refine (callsIn_wide.2 (containsFb (some ad) c0 l0 false _ (by exact Kd.C_alloc (Kd.C_alloc HR.out _) _) hc0 hany.out)).mono ?_); rintro e w1 ⟨rfl, ⟨nd, rfl⟩⟩) | (refine ⟨trivial, ?_⟩; gi_at_call 79; (with_reducible refine (callsIn_wide.2 (backward.calls (some ad) l0.length c0 _)).mono ?_); rintro e w2 ⟨rfl, rfl⟩))
          obtain ⟨W0, hW0⟩ : ∃ W0, W0 = ((((((w.alloc (.cells #[.int .i64 0, .int .i64 0] 23 (0, 0))).alloc (.cells #[.int .i64 0] 24 (0, 0))).drewN nd).alloc (.cells #[.int .i64 0, .int .i64 1] 23 (0, 0))).alloc (.cells #[.slice (some ad) l0.length c0] 27 (0, 0)))) := ⟨_, rfl⟩
          rw [← hW0]
          have B2 : W0.heap[w.heap.size]? = some (.cells #[.int .i64 0, .int .i64 0] 23 (0, 0)) := by rw [hW0]; exact blk_alloc (blk_alloc (blk_drewN (blk_alloc (blk_new w _) _) _) _) _
          have B3 : W0.heap[w.heap.size + 1]? = some (.cells #[.int .i64 0] 24 (0, 0)) := by rw [hW0]; exact blk_alloc (blk_alloc (blk_drewN (by have := blk_new (w.alloc (.cells #[.int .i64 0, .int .i64 0] 23 (0, 0))) (.cells #[.int .i64 0] 24 (0, 0)); rwa [World.size_alloc] at this) _) _) _
          have hs4 : (((w.alloc (.cells #[.int .i64 0, .int .i64 0] 23 (0, 0))).alloc (.cells #[.int .i64 0] 24 (0, 0))).drewN nd).heap.size = w.heap.size + 1 + 1 := by
            show ((w.alloc (.cells #[.int .i64 0, .int .i64 0] 23 (0, 0))).alloc (.cells #[.int .i64 0] 24 (0, 0))).heap.size = _
            simp
          have B4 : W0.heap[w.heap.size + 1 + 1]? = some (.cells #[.int .i64 0, .int .i64 1] 23 (0, 0)) := by
            rw [hW0]
            have := blk_new (((w.alloc (.cells #[.int .i64 0, .int .i64 0] 23 (0, 0))).alloc (.cells #[.int .i64 0] 24 (0, 0))).drewN nd) (.cells #[.int .i64 0, .int .i64 1] 23 (0, 0))
            rw [hs4] at this
            exact blk_alloc this _
          have Bs : W0.heap[w.heap.size + 1 + 1 + 1]? = some (.cells #[.slice (some ad) l0.length c0] 27 (0, 0)) := by
            rw [hW0]
            have := blk_new ((((w.alloc (.cells #[.int .i64 0, .int .i64 0] 23 (0, 0))).alloc (.cells #[.int .i64 0] 24 (0, 0))).drewN nd).alloc (.cells #[.int .i64 0, .int .i64 1] 23 (0, 0))) (.cells #[.slice (some ad) l0.length c0] 27 (0, 0))
            rwa [World.size_alloc, hs4] at this
          have HB : Below w.heap.size w W0 := by rw [hW0]; exact below_alloc (below_alloc (pw_below_drewN (below_alloc (below_alloc (Below.refl _ w) _) _) _) _) _
          have hS : W0.heap.size = w.heap.size + 1 + 1 + 1 + 1 := by rw [hW0, World.size_alloc, World.size_alloc, hs4]
          clear hW0 hs4
          refine range_enter rfl (by omega) (gf := 90) (lb := #[.pointer (some ⟨w.heap.size + 1 + 1 + 1, 0, none⟩)]) rfl trivial (enters_of Try.func90 (by kernel_rfl) rfl) ?_
          intro fn hfn W1 l D hD hl RR hRR hR hB1 hS1
          replace hRR := Aside0.mk hRR
          replace B2 := Aside0.mk (blk_below B2 hB1)
          replace B3 := Aside0.mk (blk_below B3 hB1)
          replace B4 := Aside0.mk (blk_below B4 hB1)
          replace Bs := Aside0.mk (blk_below Bs hB1)
          replace HB := Aside0.mk (below_step HB hB1)
          have hl' : Aside0 (l = w.heap.size + 1 + 1 + 1 + 1 + 1) := ⟨by omega⟩
          have hD' : Aside0 (D = w.heap.size + 1 + 1 + 1 + 1) := ⟨by omega⟩
          clear hD hl hB1 hS hS1 W0
          replace hR := Aside0.mk hR
          refine callsIn_of_wp Try.func90 rfl trivial ?_ rfl
          simp only [Try.ntmps90, List.size_toArray, List.length_cons, List.length_nil, Nat.reduceAdd, Nat.reduceSub, Array.replicate_succ, Array.replicate_zero, List.push_toArray, List.append_toArray, List.nil_append, List.cons_append]
          have hcs := blk_cell Bs.out 0
          simp at hcs
          gi_wp2
          gi_loopg [3] k (fun kq v3 wr => ∃ (i x0 x1 : Int), v3 = .int .i64 i ∧ -1 ≤ i ∧ i < l0.length ∧ Aside0 (yard_Fold.l0 kq l0 i x0 x1 = some (r1, r2, r3)) ∧ Aside0 (kq ≤ k) ∧ Aside0 (wr.heap[w.heap.size]? = some (.cells #[.int .i64 0, .int .i64 0] 23 (0, 0))) ∧ Aside0 (wr.heap[w.heap.size + 1]? = some (.cells #[.int .i64 0] 24 (0, 0))) ∧ Aside0 (wr.heap[w.heap.size + 1 + 1]? = some (.cells #[.int .i64 x0, .int .i64 x1] 23 (0, 0))) ∧ Aside0 (wr.heap[w.heap.size + 1 + 1 + 1]? = some (.cells #[.slice (some ad) l0.length c0] 27 (0, 0))) ∧ Aside0 (RR wr .ready none) ∧ Aside0 (Below w.heap.size w wr))
          case atStart => exact ⟨(l0.length : Int) - 1, 0, 1, by simp, by omega, by omega, H', ⟨Nat.le_refl _⟩, B2, B3, B4, Bs, hR, HB⟩
          case round =>
            clear H' B2 B3 B4 Bs hR HB hcs W1
            obtain ⟨i, x0, x1, rfl, hi0, hi1, HA, HK, B2, B3, B4, Bs, hR, HB⟩ := hrel
            cases gk with
            | zero => exact absurd HA.out (by simp [yard_Fold.l0])
            | succ k1 =>
              have H := HA.out
              clear HA
              simp only [yard_Fold.l0] at H
              have hRec := (hRR.out _ _ _).1 hR.out
              have hlD : D ≠ l := (by have := hl'.out; have := hD'.out; omega)
              have hlD' := Aside0.mk hlD
              have hcs := blk_cell Bs.out 0
              simp at hcs
              by_cases c2 : i < 0
              · rw [if_pos c2] at H
                simp only [Option.some.injEq, Prod.mk.injEq] at H
                obtain ⟨rfl, rfl, rfl⟩ := H
                have c2b : decide (0 ≤ i) = false := decide_eq_false (by omega)
                obtain ⟨W6, hov, hK6, hk6⟩ := rec_over (P := Try.prog) hRec hlD (by decide)
                have D4 := Aside0.mk ((hk6.other _ (by have := hl'.out; have := hD'.out; omega)).trans B4.out)
                have D2 := Aside0.mk ((hk6.other _ (by have := hl'.out; have := hD'.out; omega)).trans B2.out)
                have D3 := Aside0.mk ((hk6.other _ (by have := hl'.out; have := hD'.out; omega)).trans B3.out)
                have HB6 := Aside0.mk (hk6.below _ _ (by have := hl'.out; have := hD'.out; omega) HB.out)
                have hK6' := Aside0.mk hK6
                clear hk6 hK6 hRec hlD c2
                have hd4_0 := blk_cell D4.out 0
                have hd4_1 := blk_cell D4.out 1
                have hd2_0 := blk_cell D2.out 0
                have hd2_1 := blk_cell D2.out 1
                have hd2f_0 := blk_frozen D2.out 0
                have hd2f_1 := blk_frozen D2.out 1
                have hd3 := blk_cell D3.out 0
                have hd3f := blk_frozen D3.out 0
                simp at hd4_0 hd4_1 hd2_0 hd2_1 hd3
                gi_wp2
                go_end0
                refine ⟨none, W6, hov, ?_⟩
                gi_wp2
                obtain ⟨W7, hW7⟩ : ∃ W7, W7 = (((W6.setCell ⟨w.heap.size, 0, none⟩ (.int .i64 x0)).setCell ⟨w.heap.size, 1, none⟩ (.int .i64 x1)).setCell ⟨w.heap.size + 1, 0, none⟩ (.int .i64 0)) := ⟨_, rfl⟩
                rw [← hW7]
                have D4' : Aside0 (W7.heap[w.heap.size]? = some (.cells #[.int .i64 x0, .int .i64 x1] 23 (0, 0))) := ⟨by rw [hW7]; exact blk_far (blk_put (cs := #[.int .i64 x0, .int .i64 0]) (blk_put (cs := #[.int .i64 0, .int .i64 0]) D2.out 0 _ rfl) 1 _ rfl) (by simp) _⟩
                have D5' : Aside0 (W7.heap[w.heap.size + 1]? = some (.cells #[.int .i64 0] 24 (0, 0))) := ⟨by rw [hW7]; exact blk_put (cs := #[.int .i64 0]) (blk_far (blk_far D3.out (by simp) _) (by simp) _) 0 _ rfl⟩
                have HB7 : Aside0 (Below w.heap.size w W7) := ⟨by rw [hW7]; exact below_set (below_set (below_set HB6.out (by omega)) (by omega)) (by omega)⟩
                have hK7 : Aside0 (W7.heap[D]? = some (.deferred (some []))) := ⟨by rw [hW7, Below.heap_setCell _ _ _ D (by have := hD'.out; simp; omega), Below.heap_setCell _ _ _ D (by have := hD'.out; simp; omega), Below.heap_setCell _ _ _ D (by have := hD'.out; simp; omega)]; exact hK6'.out⟩
                clear hW7 hd4_0 hd4_1 hd2_0 hd2_1 hd2f_0 hd2f_1 hd3 hd3f hov
                refine ⟨by simp, .inl ⟨_, _, rfl, run_takeDeferred hK7.out, ?_⟩⟩
                have rk := recKept_put hK7.out (.deferred none)
                have E4 := (rk.other _ (by have := hl'.out; have := hD'.out; omega)).trans D4'.out
                have E5 := (rk.other _ (by have := hl'.out; have := hD'.out; omega)).trans D5'.out
                have hz4_0 := blk_cell E4 0
                have hz4_1 := blk_cell E4 1
                have hz5 := blk_cell E5 0
                simp at hz4_0 hz4_1 hz5
                refine ⟨.tuple #[.agg #[.int .i64 x0, .int .i64 x1], .int .i64 0], ?_, rfl, rk.below _ _ (by have := hl'.out; have := hD'.out; omega) HB7.out⟩
                simp [results, Try.f49, go_sem, hz4_0, hz4_1, hz5]
              · rw [if_neg c2] at H
                obtain ⟨j, rfl⟩ := Int.eq_ofNat_of_zero_le (by omega : 0 ≤ i)
                have p0 : (0 : Int) ≤ (j : Int) := by omega
                have HRr := Kd.C_below HR.out HB.out
                obtain ⟨ad, e, hx⟩ := Kd.at_int HRr (j : Int) p0 hi1
                cases e
                obtain ⟨q, hq⟩ : ∃ q, rd l0 j = q := ⟨_, rfl⟩
                rw [hq] at hx H
                simp only [Int.toNat_natCast] at hx
                clear HRr hq
                have H' := Aside0.mk H
                clear H
                have hy := run_yield (P := Try.prog) (args := #[.int .i64 j, .int .i64 q]) hRec.L rfl
                simp at hy
                have hlr := blk_lt hRec.L
                obtain ⟨W3, hb3, R4, hk3⟩ := rec_begin (P := Try.prog) hRec hlD
                have C2 := Aside0.mk ((hk3.other _ (by have := hl'.out; have := hD'.out; omega)).trans B2.out)
                have C3 := Aside0.mk ((hk3.other _ (by have := hl'.out; have := hD'.out; omega)).trans B3.out)
                have C4 := Aside0.mk ((hk3.other _ (by have := hl'.out; have := hD'.out; omega)).trans B4.out)
                have Cs := Aside0.mk ((hk3.other _ (by have := hl'.out; have := hD'.out; omega)).trans Bs.out)
                have CB := Aside0.mk (hk3.below w.heap.size w (by have := hl'.out; have := hD'.out; omega) HB.out)
                replace R4 := Aside0.mk R4
                have hb3 := hb3
                clear hRec hk3 hlr hlD
                have jlt : j < l0.length := by omega
                have c2b : decide ((0 : Int) ≤ (j : Int)) = true := decide_eq_true (by omega)
                gi_wp2
                refine roundIn_of_wpIn hfn ?_
                gi_wp2
                refine ⟨W3, hb3, ?_⟩
                clear hy hb3 hcs hx B2 B3 B4 Bs HB hR
                obtain ⟨d, hd⟩ : ∃ d, wrap64 (wrap64 (q * x1) + x0) = d := ⟨_, rfl⟩
                have H := H'.out
                clear H'
                rw [hd] at H
                have hd' := Aside0.mk hd
                have hc4_0 := blk_cell C4.out 0
                have hc4_1 := blk_cell C4.out 1
                have hf4_0 := blk_frozen C4.out 0
                have hf4_1 := blk_frozen C4.out 1
                have hc2_0 := blk_cell C2.out 0
                have hc2_1 := blk_cell C2.out 1
                have hf2_0 := blk_frozen C2.out 0
                have hf2_1 := blk_frozen C2.out 1
                have hc3_0 := blk_cell C3.out 0
                have hf3_0 := blk_frozen C3.out 0
                simp at hc4_0 hc4_1 hc2_0 hc2_1 hc3_0
                by_cases c5 : d > 1000000
                · rw [if_pos c5] at H
                  simp only [Option.some.injEq, Prod.mk.injEq] at H
                  obtain ⟨rfl, rfl, rfl⟩ := H
                  have c5b : decide (1000000 < d) = true := decide_eq_true c5
                  clear c5
                  gi_wp2
                  obtain ⟨W4, hW4⟩ : ∃ W4, W4 = (((((W3.setCell ⟨w.heap.size + 1 + 1, 0, none⟩ (.int .i64 x1)).setCell ⟨w.heap.size + 1 + 1, 1, none⟩ (.int .i64 d)).setCell ⟨w.heap.size, 0, none⟩ (.int .i64 0)).setCell ⟨w.heap.size, 1, none⟩ (.int .i64 0)).setCell ⟨w.heap.size + 1, 0, none⟩ (.int .i64 5)) := ⟨_, rfl⟩
                  rw [← hW4]
                  have e4 : ∀ p, p ≠ w.heap.size → p ≠ w.heap.size + 1 → p ≠ w.heap.size + 1 + 1 → W4.heap[p]? = W3.heap[p]? := fun p h1 h2 h3 => by
                    rw [hW4, Below.heap_setCell _ _ _ p h2, Below.heap_setCell _ _ _ p h1, Below.heap_setCell _ _ _ p h1, Below.heap_setCell _ _ _ p h3, Below.heap_setCell _ _ _ p h3]
                  replace R4 := rec_same R4.out (e4 l (by have := hl'.out; have := hD'.out; omega) (by have := hl'.out; have := hD'.out; omega) (by have := hl'.out; have := hD'.out; omega)) (e4 D (by have := hl'.out; have := hD'.out; omega) (by have := hl'.out; have := hD'.out; omega) (by have := hl'.out; have := hD'.out; omega))
                  have D2 : W4.heap[w.heap.size]? = some (.cells #[.int .i64 0, .int .i64 0] 23 (0, 0)) := by rw [hW4]; exact blk_far (blk_put (cs := #[.int .i64 0, .int .i64 0]) (blk_put (cs := #[.int .i64 0, .int .i64 0]) (blk_far (blk_far C2.out (by simp; omega) _) (by simp; omega) _) 0 _ rfl) 1 _ rfl) (by simp) _
                  have D3 : W4.heap[w.heap.size + 1]? = some (.cells #[.int .i64 5] 24 (0, 0)) := by rw [hW4]; exact blk_put (cs := #[.int .i64 0]) (blk_far (blk_far (blk_far (blk_far C3.out (by simp) _) (by simp) _) (by simp) _) (by simp) _) 0 _ rfl
                  have HB4 : Below w.heap.size w W4 := by rw [hW4]; exact below_set (below_set (below_set (below_set (below_set CB.out (by omega)) (by omega)) (by omega)) (by omega)) (by omega)
                  clear hW4 e4 hc4_0 hc4_1 hf4_0 hf4_1 hc2_0 hc2_1 hf2_0 hf2_1 hc3_0 hf3_0 hd
                  obtain ⟨W5, hend, R5, hk5⟩ := rec_end (P := Try.prog) (some .ret) R4 hlD'.out
                  obtain ⟨W6, hov, hK6, hk6⟩ := rec_over (P := Try.prog) R5 hlD'.out (by decide)
                  have D2' := Aside0.mk (((hk6.other _ (by have := hl'.out; have := hD'.out; omega)).trans (hk5.other _ (by have := hl'.out; have := hD'.out; omega))).trans D2)
                  have D3' := Aside0.mk (((hk6.other _ (by have := hl'.out; have := hD'.out; omega)).trans (hk5.other _ (by have := hl'.out; have := hD'.out; omega))).trans D3)
                  have HB6 := Aside0.mk (hk6.below _ _ (by have := hl'.out; have := hD'.out; omega) (hk5.below _ _ (by have := hl'.out; have := hD'.out; omega) HB4))
                  have hK6' := Aside0.mk hK6
                  clear R4 D2 D3 HB4 R5 hk5 hk6 hK6
                  refine ⟨_, W5, hend, ?_⟩
                  gi_wp2
                  refine bodyPost_ret (results_none rfl _ _ _) rfl ?_
                  refine ⟨some .ret, W6, hov, ?_⟩
                  gi_wp2
                  refine ⟨by simp, .inl ⟨_, _, rfl, run_takeDeferred hK6'.out, ?_⟩⟩
                  have rk := recKept_put hK6'.out (.deferred none)
                  have E4 := (rk.other _ (by have := hl'.out; have := hD'.out; omega)).trans D2'.out
                  have E5 := (rk.other _ (by have := hl'.out; have := hD'.out; omega)).trans D3'.out
                  have hz4_0 := blk_cell E4 0
                  have hz4_1 := blk_cell E4 1
                  have hz5 := blk_cell E5 0
                  simp at hz4_0 hz4_1 hz5
                  refine ⟨.tuple #[.agg #[.int .i64 0, .int .i64 0], .int .i64 5], ?_, rfl, rk.below _ _ (by have := hl'.out; have := hD'.out; omega) HB6.out⟩
                  simp [results, Try.f49, go_sem, hz4_0, hz4_1, hz5]
                · rw [if_neg c5] at H
                  have c5b : decide (1000000 < d) = false := decide_eq_false c5
                  clear c5
                  have H' := Aside0.mk H
                  clear H
                  gi_wp2
                  obtain ⟨W4, hW4⟩ : ∃ W4, W4 = ((W3.setCell ⟨w.heap.size + 1 + 1, 0, none⟩ (.int .i64 x1)).setCell ⟨w.heap.size + 1 + 1, 1, none⟩ (.int .i64 d)) := ⟨_, rfl⟩
                  rw [← hW4]
                  have e4 : ∀ p, p ≠ w.heap.size + 1 + 1 → W4.heap[p]? = W3.heap[p]? := fun p h3 => by
                    rw [hW4, Below.heap_setCell _ _ _ p h3, Below.heap_setCell _ _ _ p h3]
                  replace R4 := rec_same R4.out (e4 l (by have := hl'.out; have := hD'.out; omega)) (e4 D (by have := hl'.out; have := hD'.out; omega))
                  have D2 := (e4 _ (by omega)).trans C2.out
                  have D3 := (e4 _ (by omega)).trans C3.out
                  have Ds := (e4 _ (by omega)).trans Cs.out
                  have D4 : W4.heap[w.heap.size + 1 + 1]? = some (.cells #[.int .i64 x1, .int .i64 d] 23 (0, 0)) := by rw [hW4]; exact blk_put (cs := #[.int .i64 x1, .int .i64 x1]) (blk_put (cs := #[.int .i64 x0, .int .i64 x1]) C4.out 0 _ rfl) 1 _ rfl
                  have HB4 : Below w.heap.size w W4 := by rw [hW4]; exact below_set (below_set CB.out (by omega)) (by omega)
                  clear hW4 e4 hc4_0 hc4_1 hf4_0 hf4_1 hc2_0 hc2_1 hf2_0 hf2_1 hc3_0 hf3_0 hd
                  obtain ⟨W5, hend, R5, hk5⟩ := rec_end (P := Try.prog) none R4 hlD'.out
                  have E2 := Aside0.mk ((hk5.other _ (by have := hl'.out; have := hD'.out; omega)).trans D2)
                  have E3 := Aside0.mk ((hk5.other _ (by have := hl'.out; have := hD'.out; omega)).trans D3)
                  have E4 := Aside0.mk ((hk5.other _ (by have := hl'.out; have := hD'.out; omega)).trans D4)
                  have Es := Aside0.mk ((hk5.other _ (by have := hl'.out; have := hD'.out; omega)).trans Ds)
                  have HB5 := Aside0.mk (hk5.below _ _ (by have := hl'.out; have := hD'.out; omega) HB4)
                  have R5' := Aside0.mk ((hRR.out _ _ _).2 R5)
                  clear R4 R5 D2 D3 D4 Ds HB4 hk5
                  refine ⟨_, W5, hend, ?_⟩
                  gi_wp2
                  gi_roundg k1
                  case measure => have := HK.out; omega
                  case rel => exact ⟨(j : Int) - 1, x1, d, rfl, by omega, by omega, H', ⟨by have := HK.out; omega⟩, E2, E3, E4, Es, R5', HB5⟩
    · rw [if_neg c2] at h
      have c2b : decide (1 < (l0.length : Int)) = false := decide_eq_false c2
      have c2n : l0.length ≤ 1 := by omega
      clear c2
      cases hany : l0.any badQ with
      | true =>
        rw [if_pos hany] at h
        have hany := Aside0.mk hany
        simp only [Option.some.injEq, Prod.mk.injEq] at h
        obtain ⟨rfl, rfl, rfl⟩ := h
        go_enter Try.func49, Try.ntmps49
        go_wp2_with (go_at_call 76; (with_reducible refine (containsFb A0 c0 l0 true _ (by exact Kd.C_alloc (Kd.C_alloc HR.out _) _) hc0 hany.out).mono ?_); rintro e w1 ⟨rfl, ⟨nd, rfl⟩⟩)
        exact bodyPost_ret (v := .tuple #[.agg #[.int .i64 0, .int .i64 0], .int .i64 2]) (by simp [results, Try.results49, go_sem]) rfl ⟨rfl, by repeat (first | (with_reducible first | exact Below.refl _ _ | apply below_alloc | apply pw_below_drewN | apply below_drew1 | refine below_set ?_ (by omega)))⟩
      | false =>
        rw [if_neg (by rw [hany]; decide)] at h
        have hany := Aside0.mk hany
        have H' := Aside0.mk h
        clear h
        refine (callsIn_wide (n := 3)).1 ?_
        refine callsIn_of_wp_marks Try.func49 rfl trivial ?_
        simp only [Try.ntmps49, List.size_toArray, List.length_cons, List.length_nil, Nat.reduceAdd, Nat.reduceSub, Array.replicate_succ, Array.replicate_zero, List.push_toArray, List.append_toArray, List.nil_append, List.cons_append]
        gi_wp2_with (first | (refine ⟨trivial, ?_⟩; gi_at_call 76; (with_reducible refine (callsIn_wide.2 (containsFb A0 c0 l0 false _ (by exact Kd.C_alloc (Kd.C_alloc HR.out _) _) hc0 hany.out)).mono ?_); rintro e w1 ⟨rfl, ⟨nd, rfl⟩⟩) | (refine ⟨trivial, ?_⟩; gi_at_call 79; (with_reducible refine (callsIn_wide.2 (backward.calls A0 l0.length c0 _)).mono ?_); rintro e w2 ⟨rfl, rfl⟩))
        obtain ⟨W0, hW0⟩ : ∃ W0, W0 = ((((((w.alloc (.cells #[.int .i64 0, .int .i64 0] 23 (0, 0))).alloc (.cells #[.int .i64 0] 24 (0, 0))).drewN nd).alloc (.cells #[.int .i64 0, .int .i64 1] 23 (0, 0))).alloc (.cells #[.slice A0 l0.length c0] 27 (0, 0)))) := ⟨_, rfl⟩
        rw [← hW0]
        have B2 : W0.heap[w.heap.size]? = some (.cells #[.int .i64 0, .int .i64 0] 23 (0, 0)) := by rw [hW0]; exact blk_alloc (blk_alloc (blk_drewN (blk_alloc (blk_new w _) _) _) _) _
        have B3 : W0.heap[w.heap.size + 1]? = some (.cells #[.int .i64 0] 24 (0, 0)) := by rw [hW0]; exact blk_alloc (blk_alloc (blk_drewN (by have := blk_new (w.alloc (.cells #[.int .i64 0, .int .i64 0] 23 (0, 0))) (.cells #[.int .i64 0] 24 (0, 0)); rwa [World.size_alloc] at this) _) _) _
        have hs4 : (((w.alloc (.cells #[.int .i64 0, .int .i64 0] 23 (0, 0))).alloc (.cells #[.int .i64 0] 24 (0, 0))).drewN nd).heap.size = w.heap.size + 1 + 1 := by
          show ((w.alloc (.cells #[.int .i64 0, .int .i64 0] 23 (0, 0))).alloc (.cells #[.int .i64 0] 24 (0, 0))).heap.size = _
          simp
        have B4 : W0.heap[w.heap.size + 1 + 1]? = some (.cells #[.int .i64 0, .int .i64 1] 23 (0, 0)) := by
          rw [hW0]
          have := blk_new (((w.alloc (.cells #[.int .i64 0, .int .i64 0] 23 (0, 0))).alloc (.cells #[.int .i64 0] 24 (0, 0))).drewN nd) (.cells #[.int .i64 0, .int .i64 1] 23 (0, 0))
          rw [hs4] at this
          exact blk_alloc this _
        have Bs : W0.heap[w.heap.size + 1 + 1 + 1]? = some (.cells #[.slice A0 l0.length c0] 27 (0, 0)) := by
          rw [hW0]
          have := blk_new ((((w.alloc (.cells #[.int .i64 0, .int .i64 0] 23 (0, 0))).alloc (.cells #[.int .i64 0] 24 (0, 0))).drewN nd).alloc (.cells #[.int .i64 0, .int .i64 1] 23 (0, 0))) (.cells #[.slice A0 l0.length c0] 27 (0, 0))
          rwa [World.size_alloc, hs4] at this
        have HB : Below w.heap.size w W0 := by rw [hW0]; exact below_alloc (below_alloc (pw_below_drewN (below_alloc (below_alloc (Below.refl _ w) _) _) _) _) _
        have hS : W0.heap.size = w.heap.size + 1 + 1 + 1 + 1 := by rw [hW0, World.size_alloc, World.size_alloc, hs4]
        clear hW0 hs4
        refine range_enter rfl (by omega) (gf := 90) (lb := #[.pointer (some ⟨w.heap.size + 1 + 1 + 1, 0, none⟩)]) rfl trivial (enters_of Try.func90 (by kernel_rfl) rfl) ?_
        intro fn hfn W1 l D hD hl RR hRR hR hB1 hS1
        replace hRR := Aside0.mk hRR
        replace B2 := Aside0.mk (blk_below B2 hB1)
        replace B3 := Aside0.mk (blk_below B3 hB1)
        replace B4 := Aside0.mk (blk_below B4 hB1)
        replace Bs := Aside0.mk (blk_below Bs hB1)
        replace HB := Aside0.mk (below_step HB hB1)
        have hl' : Aside0 (l = w.heap.size + 1 + 1 + 1 + 1 + 1) := ⟨by omega⟩
        have hD' : Aside0 (D = w.heap.size + 1 + 1 + 1 + 1) := ⟨by omega⟩
        clear hD hl hB1 hS hS1 W0
        replace hR := Aside0.mk hR
        refine callsIn_of_wp Try.func90 rfl trivial ?_ rfl
        simp only [Try.ntmps90, List.size_toArray, List.length_cons, List.length_nil, Nat.reduceAdd, Nat.reduceSub, Array.replicate_succ, Array.replicate_zero, List.push_toArray, List.append_toArray, List.nil_append, List.cons_append]
        have hcs := blk_cell Bs.out 0
        simp at hcs
        gi_wp2
        gi_loopg [3] k (fun kq v3 wr => ∃ (i x0 x1 : Int), v3 = .int .i64 i ∧ -1 ≤ i ∧ i < l0.length ∧ Aside0 (yard_Fold.l0 kq l0 i x0 x1 = some (r1, r2, r3)) ∧ Aside0 (kq ≤ k) ∧ Aside0 (wr.heap[w.heap.size]? = some (.cells #[.int .i64 0, .int .i64 0] 23 (0, 0))) ∧ Aside0 (wr.heap[w.heap.size + 1]? = some (.cells #[.int .i64 0] 24 (0, 0))) ∧ Aside0 (wr.heap[w.heap.size + 1 + 1]? = some (.cells #[.int .i64 x0, .int .i64 x1] 23 (0, 0))) ∧ Aside0 (wr.heap[w.heap.size + 1 + 1 + 1]? = some (.cells #[.slice A0 l0.length c0] 27 (0, 0))) ∧ Aside0 (RR wr .ready none) ∧ Aside0 (Below w.heap.size w wr))
        case atStart => exact ⟨(l0.length : Int) - 1, 0, 1, by simp, by omega, by omega, H', ⟨Nat.le_refl _⟩, B2, B3, B4, Bs, hR, HB⟩
        case round =>
          clear H' B2 B3 B4 Bs hR HB hcs W1
          obtain ⟨i, x0, x1, rfl, hi0, hi1, HA, HK, B2, B3, B4, Bs, hR, HB⟩ := hrel
          cases gk with
          | zero => exact absurd HA.out (by simp [yard_Fold.l0])
          | succ k1 =>
            have H := HA.out
            clear HA
            simp only [yard_Fold.l0] at H
            have hRec := (hRR.out _ _ _).1 hR.out
            have hlD : D ≠ l := (by have := hl'.out; have := hD'.out; omega)
            have hlD' := Aside0.mk hlD
            have hcs := blk_cell Bs.out 0
            simp at hcs
            by_cases c2 : i < 0
            · rw [if_pos c2] at H
              simp only [Option.some.injEq, Prod.mk.injEq] at H
              obtain ⟨rfl, rfl, rfl⟩ := H
              have c2b : decide (0 ≤ i) = false := decide_eq_false (by omega)
              obtain ⟨W6, hov, hK6, hk6⟩ := rec_over (P := Try.prog) hRec hlD (by decide)
              have D4 := Aside0.mk ((hk6.other _ (by have := hl'.out; have := hD'.out; omega)).trans B4.out)
              have D2 := Aside0.mk ((hk6.other _ (by have := hl'.out; have := hD'.out; omega)).trans B2.out)
              have D3 := Aside0.mk ((hk6.other _ (by have := hl'.out; have := hD'.out; omega)).trans B3.out)
              have HB6 := Aside0.mk (hk6.below _ _ (by have := hl'.out; have := hD'.out; omega) HB.out)
              have hK6' := Aside0.mk hK6
              clear hk6 hK6 hRec hlD c2
              have hd4_0 := blk_cell D4.out 0
              have hd4_1 := blk_cell D4.out 1
              have hd2_0 := blk_cell D2.out 0
              have hd2_1 := blk_cell D2.out 1
              have hd2f_0 := blk_frozen D2.out 0
              have hd2f_1 := blk_frozen D2.out 1
              have hd3 := blk_cell D3.out 0
              have hd3f := blk_frozen D3.out 0
              simp at hd4_0 hd4_1 hd2_0 hd2_1 hd3
              gi_wp2
              go_end0
              refine ⟨none, W6, hov, ?_⟩
              gi_wp2
              obtain ⟨W7, hW7⟩ : ∃ W7, W7 = (((W6.setCell ⟨w.heap.size, 0, none⟩ (.int .i64 x0)).setCell ⟨w.heap.size, 1, none⟩ (.int .i64 x1)).setCell ⟨w.heap.size + 1, 0, none⟩ (.int .i64 0)) := ⟨_, rfl⟩
              rw [← hW7]
              have D4' : Aside0 (W7.heap[w.heap.size]? = some (.cells #[.int .i64 x0, .int .i64 x1] 23 (0, 0))) := ⟨by rw [hW7]; exact blk_far (blk_put (cs := #[.int .i64 x0, .int .i64 0]) (blk_put (cs := #[.int .i64 0, .int .i64 0]) D2.out 0 _ rfl) 1 _ rfl) (by simp) _⟩
              have D5' : Aside0 (W7.heap[w.heap.size + 1]? = some (.cells #[.int .i64 0] 24 (0, 0))) := ⟨by rw [hW7]; exact blk_put (cs := #[.int .i64 0]) (blk_far (blk_far D3.out (by simp) _) (by simp) _) 0 _ rfl⟩
              have HB7 : Aside0 (Below w.heap.size w W7) := ⟨by rw [hW7]; exact below_set (below_set (below_set HB6.out (by omega)) (by omega)) (by omega)⟩
              have hK7 : Aside0 (W7.heap[D]? = some (.deferred (some []))) := ⟨by rw [hW7, Below.heap_setCell _ _ _ D (by have := hD'.out; simp; omega), Below.heap_setCell _ _ _ D (by have := hD'.out; simp; omega), Below.heap_setCell _ _ _ D (by have := hD'.out; simp; omega)]; exact hK6'.out⟩
              clear hW7 hd4_0 hd4_1 hd2_0 hd2_1 hd2f_0 hd2f_1 hd3 hd3f hov
              refine ⟨by simp, .inl ⟨_, _, rfl, run_takeDeferred hK7.out, ?_⟩⟩
              have rk := recKept_put hK7.out (.deferred none)
              have E4 := (rk.other _ (by have := hl'.out; have := hD'.out; omega)).trans D4'.out
              have E5 := (rk.other _ (by have := hl'.out; have := hD'.out; omega)).trans D5'.out
              have hz4_0 := blk_cell E4 0
              have hz4_1 := blk_cell E4 1
              have hz5 := blk_cell E5 0
              simp at hz4_0 hz4_1 hz5
              refine ⟨.tuple #[.agg #[.int .i64 x0, .int .i64 x1], .int .i64 0], ?_, rfl, rk.below _ _ (by have := hl'.out; have := hD'.out; omega) HB7.out⟩
              simp [results, Try.f49, go_sem, hz4_0, hz4_1, hz5]
            · rw [if_neg c2] at H
              obtain ⟨j, rfl⟩ := Int.eq_ofNat_of_zero_le (by omega : 0 ≤ i)
              have p0 : (0 : Int) ≤ (j : Int) := by omega
              have HRr := Kd.C_below HR.out HB.out
              obtain ⟨ad, e, hx⟩ := Kd.at_int HRr (j : Int) p0 hi1
              cases e
              obtain ⟨q, hq⟩ : ∃ q, rd l0 j = q := ⟨_, rfl⟩
              rw [hq] at hx H
              simp only [Int.toNat_natCast] at hx
              clear HRr hq
              have H' := Aside0.mk H
              clear H
              have hy := run_yield (P := Try.prog) (args := #[.int .i64 j, .int .i64 q]) hRec.L rfl
              simp at hy
              have hlr := blk_lt hRec.L
              obtain ⟨W3, hb3, R4, hk3⟩ := rec_begin (P := Try.prog) hRec hlD
              have C2 := Aside0.mk ((hk3.other _ (by have := hl'.out; have := hD'.out; omega)).trans B2.out)
              have C3 := Aside0.mk ((hk3.other _ (by have := hl'.out; have := hD'.out; omega)).trans B3.out)
              have C4 := Aside0.mk ((hk3.other _ (by have := hl'.out; have := hD'.out; omega)).trans B4.out)
              have Cs := Aside0.mk ((hk3.other _ (by have := hl'.out; have := hD'.out; omega)).trans Bs.out)
              have CB := Aside0.mk (hk3.below w.heap.size w (by have := hl'.out; have := hD'.out; omega) HB.out)
              replace R4 := Aside0.mk R4
              have hb3 := hb3
              clear hRec hk3 hlr hlD
              have jlt : j < l0.length := by omega
              have c2b : decide ((0 : Int) ≤ (j : Int)) = true := decide_eq_true (by omega)
              gi_wp2
              refine roundIn_of_wpIn hfn ?_
              gi_wp2
              refine ⟨W3, hb3, ?_⟩
              clear hy hb3 hcs hx B2 B3 B4 Bs HB hR
              obtain ⟨d, hd⟩ : ∃ d, wrap64 (wrap64 (q * x1) + x0) = d := ⟨_, rfl⟩
              have H := H'.out
              clear H'
              rw [hd] at H
              have hd' := Aside0.mk hd
              have hc4_0 := blk_cell C4.out 0
              have hc4_1 := blk_cell C4.out 1
              have hf4_0 := blk_frozen C4.out 0
              have hf4_1 := blk_frozen C4.out 1
              have hc2_0 := blk_cell C2.out 0
              have hc2_1 := blk_cell C2.out 1
              have hf2_0 := blk_frozen C2.out 0
              have hf2_1 := blk_frozen C2.out 1
              have hc3_0 := blk_cell C3.out 0
              have hf3_0 := blk_frozen C3.out 0
              simp at hc4_0 hc4_1 hc2_0 hc2_1 hc3_0
              by_cases c5 : d > 1000000
              · rw [if_pos c5] at H
                simp only [Option.some.injEq, Prod.mk.injEq] at H
                obtain ⟨rfl, rfl, rfl⟩ := H
                have c5b : decide (1000000 < d) = true := decide_eq_true c5
                clear c5
                gi_wp2
                obtain ⟨W4, hW4⟩ : ∃ W4, W4 = (((((W3.setCell ⟨w.heap.size + 1 + 1, 0, none⟩ (.int .i64 x1)).setCell ⟨w.heap.size + 1 + 1, 1, none⟩ (.int .i64 d)).setCell ⟨w.heap.size, 0, none⟩ (.int .i64 0)).setCell ⟨w.heap.size, 1, none⟩ (.int .i64 0)).setCell ⟨w.heap.size + 1, 0, none⟩ (.int .i64 5)) := ⟨_, rfl⟩
                rw [← hW4]
                have e4 : ∀ p, p ≠ w.heap.size → p ≠ w.heap.size + 1 → p ≠ w.heap.size + 1 + 1 → W4.heap[p]? = W3.heap[p]? := fun p h1 h2 h3 => by
                  rw [hW4, Below.heap_setCell _ _ _ p h2, Below.heap_setCell _ _ _ p h1, Below.heap_setCell _ _ _ p h1, Below.heap_setCell _ _ _ p h3, Below.heap_setCell _ _ _ p h3]
                replace R4 := rec_same R4.out (e4 l (by have := hl'.out; have := hD'.out; omega) (by have := hl'.out; have := hD'.out; omega) (by have := hl'.out; have := hD'.out; omega)) (e4 D (by have := hl'.out; have := hD'.out; omega) (by have := hl'.out; have := hD'.out; omega) (by have := hl'.out; have := hD'.out; omega))
                have D2 : W4.heap[w.heap.size]? = some (.cells #[.int .i64 0, .int .i64 0] 23 (0, 0)) := by rw [hW4]; exact blk_far (blk_put (cs := #[.int .i64 0, .int .i64 0]) (blk_put (cs := #[.int .i64 0, .int .i64 0]) (blk_far (blk_far C2.out (by simp; omega) _) (by simp; omega) _) 0 _ rfl) 1 _ rfl) (by simp) _
                have D3 : W4.heap[w.heap.size + 1]? = some (.cells #[.int .i64 5] 24 (0, 0)) := by rw [hW4]; exact blk_put (cs := #[.int .i64 0]) (blk_far (blk_far (blk_far (blk_far C3.out (by simp) _) (by simp) _) (by simp) _) (by simp) _) 0 _ rfl
                have HB4 : Below w.heap.size w W4 := by rw [hW4]; exact below_set (below_set (below_set (below_set (below_set CB.out (by omega)) (by omega)) (by omega)) (by omega)) (by omega)
                clear hW4 e4 hc4_0 hc4_1 hf4_0 hf4_1 hc2_0 hc2_1 hf2_0 hf2_1 hc3_0 hf3_0 hd
                obtain ⟨W5, hend, R5, hk5⟩ := rec_end (P := Try.prog) (some .ret) R4 hlD'.out
                obtain ⟨W6, hov, hK6, hk6⟩ := rec_over (P := Try.prog) R5 hlD'.out (by decide)
                have D2' := Aside0.mk (((hk6.other _ (by have := hl'.out; have := hD'.out; omega)).trans (hk5.other _ (by have := hl'.out; have := hD'.out; omega))).trans D2)
                have D3' := Aside0.mk (((hk6.other _ (by have := hl'.out; have := hD'.out; omega)).trans (hk5.other _ (by have := hl'.out; have := hD'.out; omega))).trans D3)
                have HB6 := Aside0.mk (hk6.below _ _ (by have := hl'.out; have := hD'.out; omega) (hk5.below _ _ (by have := hl'.out; have := hD'.out; omega) HB4))
                have hK6' := Aside0.mk hK6
                clear R4 D2 D3 HB4 R5 hk5 hk6 hK6
                refine ⟨_, W5, hend, ?_⟩
                gi_wp2
                refine bodyPost_ret (results_none rfl _ _ _) rfl ?_
                refine ⟨some .ret, W6, hov, ?_⟩
                gi_wp2
                refine ⟨by simp, .inl ⟨_, _, rfl, run_takeDeferred hK6'.out, ?_⟩⟩
                have rk := recKept_put hK6'.out (.deferred none)
                have E4 := (rk.other _ (by have := hl'.out; have := hD'.out; omega)).trans D2'.out
                have E5 := (rk.other _ (by have := hl'.out; have := hD'.out; omega)).trans D3'.out
                have hz4_0 := blk_cell E4 0
                have hz4_1 := blk_cell E4 1
                have hz5 := blk_cell E5 0
                simp at hz4_0 hz4_1 hz5
                refine ⟨.tuple #[.agg #[.int .i64 0, .int .i64 0], .int .i64 5], ?_, rfl, rk.below _ _ (by have := hl'.out; have := hD'.out; omega) HB6.out⟩
                simp [results, Try.f49, go_sem, hz4_0, hz4_1, hz5]
              · rw [if_neg c5] at H
                have c5b : decide (1000000 < d) = false := decide_eq_false c5
                clear c5
                have H' := Aside0.mk H
                clear H
                gi_wp2
                obtain ⟨W4, hW4⟩ : ∃ W4, W4 = ((W3.setCell ⟨w.heap.size + 1 + 1, 0, none⟩ (.int .i64 x1)).setCell ⟨w.heap.size + 1 + 1, 1, none⟩ (.int .i64 d)) := ⟨_, rfl⟩
                rw [← hW4]
                have e4 : ∀ p, p ≠ w.heap.size + 1 + 1 → W4.heap[p]? = W3.heap[p]? := fun p h3 => by
                  rw [hW4, Below.heap_setCell _ _ _ p h3, Below.heap_setCell _ _ _ p h3]
                replace R4 := rec_same R4.out (e4 l (by have := hl'.out; have := hD'.out; omega)) (e4 D (by have := hl'.out; have := hD'.out; omega))
                have D2 := (e4 _ (by omega)).trans C2.out
                have D3 := (e4 _ (by omega)).trans C3.out
                have Ds := (e4 _ (by omega)).trans Cs.out
                have D4 : W4.heap[w.heap.size + 1 + 1]? = some (.cells #[.int .i64 x1, .int .i64 d] 23 (0, 0)) := by rw [hW4]; exact blk_put (cs := #[.int .i64 x1, .int .i64 x1]) (blk_put (cs := #[.int .i64 x0, .int .i64 x1]) C4.out 0 _ rfl) 1 _ rfl
                have HB4 : Below w.heap.size w W4 := by rw [hW4]; exact below_set (below_set CB.out (by omega)) (by omega)
                clear hW4 e4 hc4_0 hc4_1 hf4_0 hf4_1 hc2_0 hc2_1 hf2_0 hf2_1 hc3_0 hf3_0 hd
                obtain ⟨W5, hend, R5, hk5⟩ := rec_end (P := Try.prog) none R4 hlD'.out
                have E2 := Aside0.mk ((hk5.other _ (by have := hl'.out; have := hD'.out; omega)).trans D2)
                have E3 := Aside0.mk ((hk5.other _ (by have := hl'.out; have := hD'.out; omega)).trans D3)
                have E4 := Aside0.mk ((hk5.other _ (by have := hl'.out; have := hD'.out; omega)).trans D4)
                have Es := Aside0.mk ((hk5.other _ (by have := hl'.out; have := hD'.out; omega)).trans Ds)
                have HB5 := Aside0.mk (hk5.below _ _ (by have := hl'.out; have := hD'.out; omega) HB4)
                have R5' := Aside0.mk ((hRR.out _ _ _).2 R5)
                clear R4 R5 D2 D3 D4 Ds HB4 hk5
                refine ⟨_, W5, hend, ?_⟩
                gi_wp2
                gi_roundg k1
                case measure => have := HK.out; omega
                case rel => exact ⟨(j : Int) - 1, x1, d, rfl, by omega, by omega, H', ⟨by have := HK.out; omega⟩, E2, E3, E4, Es, R5', HB5⟩
end Go.Proofs.Ythjodhmkmjabbaa.PY
