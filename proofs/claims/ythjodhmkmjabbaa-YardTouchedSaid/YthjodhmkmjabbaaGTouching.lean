/- The walk of yard.Touching: what it computes, as a Lean function. -/
import Derived.Test.YthjodhmkmjabbaaSq
import Derived.Test.YthjodhmkmjabbaaPYx5
import Derived.Test.YthjodhmkmjabbaaPYx2
import Derived.Test.YthjodhmkmjabbaaPYx14
import Derived.Test.YthjodhmkmjabbaaGItem
namespace Go.Proofs.Ythjodhmkmjabbaa.PY
open Go.RowKit Go.Shelf Go.Proofs.YthjodhmkmjabbaaW.PrintWords Go.Proofs.YthjodhmkmjabbaaW.PrintLast Go.Proofs.YthjodhmkmjabbaaW.PrintMore
attribute [local go_sem] Oper.semAt_some
set_option linter.unusedVariables false
set_option linter.unusedSimpArgs false
def yard_Touching.l0 : Nat → Int → Int → Int → Int → Int → List S23 → Int → Int → Option (List S23 × Int)
 | 0, _, _, _, _, _, _, _, _ => none
 | k + 1, n, x0, x1, y0, y1, out, a, b =>
  (yard_beside.f a b x0 x1).bind fun t1 =>
  (if t1 = true then some true else yard_beside.f x0 x1 a b).bind fun t2 =>
  if t2 = true then
   (if out.length < 1000000 then
    (if x0 < x1 then (if y1 = 0 then none else yard_Touching.l0 k n y0 y1 (wrap64 (wrap64 (wrap64 (Int.tdiv (wrap64 (n + x1)) y1) * y0) - x0)) (wrap64 (wrap64 (wrap64 (Int.tdiv (wrap64 (n + x1)) y1) * y1) - x1)) (out ++ [⟨x0, x1⟩]) a b)
    else some (out ++ [⟨x0, x1⟩], 0))
   else none)
  else
   (if x0 < x1 then (if y1 = 0 then none else yard_Touching.l0 k n y0 y1 (wrap64 (wrap64 (wrap64 (Int.tdiv (wrap64 (n + x1)) y1) * y0) - x0)) (wrap64 (wrap64 (wrap64 (Int.tdiv (wrap64 (n + x1)) y1) * y1) - x1)) out a b)
   else some (out, 0))
def yard_Touching.f (k : Nat) (n a b : Int) : Option (List S23 × Int) :=
 (yard_isRow.f n).bind fun t => if t = true then ((yard_isFrac.f k a b).bind fun t2 => if t2 = true then (if b > n then some ([], 2) else yard_Touching.l0 k n 0 1 1 n [] a b) else some ([], 2)) else some ([], 2)
theorem yard_Touching.mono_l : ∀ k, (∀ y0 y1 y2 y3 y4 y5 y6 y7, LeO (yard_Touching.l0 k y0 y1 y2 y3 y4 y5 y6 y7) (yard_Touching.l0 (k + 1) y0 y1 y2 y3 y4 y5 y6 y7))
 | 0 => fun _ _ _ _ _ _ _ _ r h => by simp [yard_Touching.l0] at h
 | k + 1 => by
  have ih0 := yard_Touching.mono_l k
  ·intro y0 y1 y2 y3 y4 y5 y6 y7
   unfold yard_Touching.l0
   repeat' first
   | (with_reducible exact ih0 _ _ _ _ _ _ _ _)
   | (with_reducible exact LeO.refl _)
   | (with_reducible exact LeO.none _)
   | (with_reducible refine LeO.ite ?_ ?_)
   | (with_reducible refine LeO.bind ?_ (fun _ => ?_))
theorem yard_Touching.mono : ∀ a0 a1 a2 k, LeO (yard_Touching.f k a0 a1 a2) (yard_Touching.f (k + 1) a0 a1 a2) := by
 intro a0 a1 a2 k
 have ih0 := yard_Touching.mono_l k
 unfold yard_Touching.f
 repeat' first
  | (with_reducible exact ih0 _ _ _ _ _ _ _ _)
  | (with_reducible exact yard_isFrac.mono _ _ _)
  | (with_reducible exact LeO.refl _)
  | (with_reducible refine LeO.ite ?_ ?_)
  | (with_reducible refine LeO.bind ?_ (fun _ => ?_))
set_option maxHeartbeats 40000000 in
set_option maxRecDepth 100000 in
theorem yard_Touching.calls (k : Nat) (a0 : Int) (a1_0 a1_1 : Int) (r1 : List S23) (r2 : Int) (w : World) (h : yard_Touching.f k a0 a1_0 a1_1 = some (r1, r2)) :
 Calls Try.prog 52 #[.int .i64 a0, .agg #[.int .i64 a1_0, .int .i64 a1_1]] w fun e w' => ∃ v0_ : Value, e = .returned (.tuple #[v0_, .int .i64 r2]) ∧ Kd.R k23 23 w' w.heap.size (fun _ => True) v0_ r1 ∧ Below w.heap.size w w' := by
 have hu23 := Try.underlying23
 unfold yard_Touching.f at h
 obtain ⟨t, A1, h⟩ := Option.bind_eq_some_iff.mp h
 have A1 := Aside0.mk A1
 cases t with
 | false =>
  rw [if_neg (by decide)] at h
  simp only [Option.some.injEq, Prod.mk.injEq] at h
  obtain ⟨rfl, rfl⟩ := h
  go_enter Try.func52, Try.ntmps52
  go_wp2_with (first | (go_at_call 69; (with_reducible refine (yard_isRow.calls a0 false _ A1.out).mono ?_); rintro e w1 ⟨rfl, ⟨nd, rfl⟩⟩))
  go_ret2
  exact ⟨_, rfl, Kd.R_nil _ _ _ _ _, by repeat (first | (with_reducible first | exact Below.refl _ _ | apply below_alloc | apply pw_below_drewN | apply below_drew1))⟩
 | true =>
  rw [if_pos rfl] at h
  obtain ⟨t2, A2, h⟩ := Option.bind_eq_some_iff.mp h
  have A2 := Aside0.mk A2
  cases t2 with
  | false =>
   rw [if_neg (by decide)] at h
   simp only [Option.some.injEq, Prod.mk.injEq] at h
   obtain ⟨rfl, rfl⟩ := h
   go_enter Try.func52, Try.ntmps52
   go_wp2_with (first | (go_at_call 69; (with_reducible refine (yard_isRow.calls a0 true _ A1.out).mono ?_); rintro e w1 ⟨rfl, ⟨nd, rfl⟩⟩) | (go_at_call 60; (with_reducible refine (yard_isFrac.calls k a1_0 a1_1 false _ A2.out).mono ?_); rintro e w1 ⟨rfl, hb1⟩))
   go_ret2
   exact ⟨_, rfl, Kd.R_nil _ _ _ _ _, below_step (by repeat (first | (with_reducible first | exact Below.refl _ _ | apply below_alloc | apply pw_below_drewN | apply below_drew1))) hb1⟩
  | true =>
   rw [if_pos rfl] at h
   by_cases c1 : a1_1 > a0
   ·rw [if_pos c1] at h
    have c1b : decide (a0 < a1_1) = true := decide_eq_true c1
    clear c1
    simp only [Option.some.injEq, Prod.mk.injEq] at h
    obtain ⟨rfl, rfl⟩ := h
    go_enter Try.func52, Try.ntmps52
    go_wp2_with (first | (go_at_call 69; (with_reducible refine (yard_isRow.calls a0 true _ A1.out).mono ?_); rintro e w1 ⟨rfl, ⟨nd, rfl⟩⟩) | (go_at_call 60; (with_reducible refine (yard_isFrac.calls k a1_0 a1_1 true _ A2.out).mono ?_); rintro e w1 ⟨rfl, hb1⟩; have hcc := fun b o h => hb1.cell (p := ⟨b, o, none⟩) h; have hsz := hb1.size))
    go_ret2
    exact ⟨_, rfl, Kd.R_nil _ _ _ _ _, below_step (by repeat (first | (with_reducible first | exact Below.refl _ _ | apply below_alloc | apply pw_below_drewN | apply below_drew1))) hb1⟩
   ·rw [if_neg c1] at h
    have c1b : decide (a0 < a1_1) = false := decide_eq_false c1
    clear c1
    have H' := Aside0.mk h
    clear h
    refine (callsIn_wide (n := 3)).1 ?_
    refine callsIn_of_wp_marks Try.func52 rfl trivial ?_
    simp only [Try.ntmps52, List.size_toArray, List.length_cons, List.length_nil, Nat.reduceAdd, Nat.reduceSub, Array.replicate_succ, Array.replicate_zero, List.push_toArray, List.append_toArray, List.nil_append, List.cons_append]
    gi_wp2_with (first | (refine ⟨trivial, ?_⟩; gi_at_call 69; (with_reducible refine (callsIn_wide.2 (yard_isRow.calls a0 true _ A1.out)).mono ?_); rintro e w1 ⟨rfl, ⟨nd, rfl⟩⟩) | (refine ⟨trivial, ?_⟩; gi_at_call 60; (with_reducible refine (callsIn_wide.2 (yard_isFrac.calls k a1_0 a1_1 true _ A2.out)).mono ?_); rintro e w1 ⟨rfl, hb1⟩; have hcc := fun b o h => hb1.cell (p := ⟨b, o, none⟩) h) | (refine ⟨trivial, ?_⟩; gi_at_call 71; (with_reducible refine (callsIn_wide.2 (row.calls a0 _)).mono ?_); rintro e w2 ⟨rfl, rfl⟩))
    obtain ⟨W0, hW0⟩ : ∃ W0, W0 = ((w1.alloc (.cells #[.slice none 0 0] 54 (0, 0))).alloc (.cells #[.int .i64 a0] 3 (0, 0))) := ⟨_, rfl⟩
    rw [← hW0]
    obtain ⟨s6, hs6e⟩ : ∃ s, s = w1.heap.size := ⟨_, rfl⟩
    have hs1 := hb1.size
    have hs1' : ((w.alloc (.cells #[.int .i64 a1_0, .int .i64 a1_1] 23 (0, 0))).drewN nd).heap.size = w.heap.size + 1 := by
     show (w.alloc (.cells #[.int .i64 a1_0, .int .i64 a1_1] 23 (0, 0))).heap.size = _
     simp
    rw [hs1', ← hs6e] at hs1
    have hs6 : Aside0 (w.heap.size + 1 ≤ s6) := ⟨hs1⟩
    have B3 : W0.heap[w.heap.size]? = some (.cells #[.int .i64 a1_0, .int .i64 a1_1] 23 (0, 0)) := by rw [hW0]; exact blk_alloc (blk_alloc (blk_below (blk_drewN (blk_new w _) _) hb1) _) _
    have B6 : W0.heap[s6]? = some (.cells #[.slice none 0 0] 54 (0, 0)) := by rw [hW0, hs6e]; exact blk_alloc (blk_new w1 _) _
    have Bn : W0.heap[s6 + 1]? = some (.cells #[.int .i64 a0] 3 (0, 0)) := by
     rw [hW0, hs6e]
     have := blk_new (w1.alloc (.cells #[.slice none 0 0] 54 (0, 0))) (.cells #[.int .i64 a0] 3 (0, 0))
     rwa [World.size_alloc] at this
    have HB : Below w.heap.size w W0 := by rw [hW0]; exact below_alloc (below_alloc (below_step (pw_below_drewN (below_alloc (Below.refl _ w) _) _) hb1) _) _
    have hS : W0.heap.size = s6 + 2 := by rw [hW0, hs6e]; simp
    rw [← hs6e]
    clear hW0 hb1 hcc hs1 hs1' hs6e
    refine range_enter rfl (by omega) (gf := 83) (lb := #[.pointer (some ⟨s6 + 1, 0, none⟩)]) rfl trivial (enters_of Try.func83 (by kernel_rfl) rfl) ?_
    intro fn hfn W1 l D hD hl RR hRR hR hB1 hS1
    replace hRR := Aside0.mk hRR
    replace B3 := Aside0.mk (blk_below B3 hB1)
    replace B6 := Aside0.mk (blk_below B6 hB1)
    replace Bn := Aside0.mk (blk_below Bn hB1)
    replace HB := Aside0.mk (below_step HB hB1)
    have hl' : Aside0 (l = s6 + 3) := ⟨by omega⟩
    have hD' : Aside0 (D = s6 + 2) := ⟨by omega⟩
    have hS1' : Aside0 (W1.heap.size = s6 + 4) := ⟨by omega⟩
    clear hD hl hB1 hS hS1 W0
    replace hR := Aside0.mk hR
    refine callsIn_of_wp Try.func83 rfl trivial ?_ rfl
    simp only [Try.ntmps83, List.size_toArray, List.length_cons, List.length_nil, Nat.reduceAdd, Nat.reduceSub, Array.replicate_succ, Array.replicate_zero, List.push_toArray, List.append_toArray, List.nil_append, List.cons_append]
    have hcn := blk_cell Bn.out 0
    have hln := blk_lt Bn.out
    simp at hcn
    have hln1 : s6 + 1 < W1.heap.size + 1 := by omega
    have hnn0 : ¬ s6 + 1 = W1.heap.size := by omega
    have hnn1 : ¬ s6 + 1 = W1.heap.size + 1 := by omega
    gi_wp2
    gi_region
    ·obtain ⟨W2, hW2⟩ : ∃ W2, W2 = ((W1.alloc (.cells #[.int .i64 0, .int .i64 1] 23 (0, 0))).alloc (.cells #[.int .i64 1, .int .i64 a0] 23 (0, 0))).drew := ⟨_, rfl⟩
     rw [← hW2]
     have F3 : W2.heap[W1.heap.size]? = some (.cells #[.int .i64 0, .int .i64 1] 23 (0, 0)) := by rw [hW2]; exact blk_drew (blk_alloc (blk_new W1 _) _)
     have F4 : W2.heap[W1.heap.size + 1]? = some (.cells #[.int .i64 1, .int .i64 a0] 23 (0, 0)) := by rw [hW2]; exact blk_drew (by have := blk_new (W1.alloc (.cells #[.int .i64 0, .int .i64 1] 23 (0, 0))) (.cells #[.int .i64 1, .int .i64 a0] 23 (0, 0)); rwa [World.size_alloc] at this)
     have hb2 : Below W1.heap.size W1 W2 := by rw [hW2]; exact below_drew1 (below_alloc (below_alloc (Below.refl _ _) _) _)
     obtain ⟨g3, hg3⟩ : ∃ g, g = W1.heap.size := ⟨_, rfl⟩
     obtain ⟨g4, hg4⟩ : ∃ g, g = W1.heap.size + 1 := ⟨_, rfl⟩
     rw [← hg4, ← hg3]
     rw [← hg3] at F3
     rw [← hg4] at F4
     have hN := hS1'.out
     have hne : Aside0 (g3 ≠ g4) := ⟨by omega⟩
     have hge3 : Aside0 (s6 + 4 ≤ g3) := ⟨by omega⟩
     have hge4 : Aside0 (s6 + 4 ≤ g4) := ⟨by omega⟩
     clear hg3 hg4 hN hW2 hcn hln hln1 hnn0 hnn1
     replace B3 := Aside0.mk (blk_below B3.out hb2)
     replace B6 := Aside0.mk (blk_below B6.out hb2)
     replace Bn := Aside0.mk (blk_below Bn.out hb2)
     replace HB := Aside0.mk (below_step HB.out hb2)
     replace F3 := Aside0.mk F3
     replace F4 := Aside0.mk F4
     replace hR := Aside0.mk (rec_below hRR.out hR.out hb2)
     have HO : Aside0 (Kd.R k23 23 W2 w.heap.size (fun q => s6 + 4 ≤ q ∧ q ≠ g3 ∧ q ≠ g4) (.slice none 0 0) []) := ⟨Kd.R_nil _ _ _ _ _⟩
     clear hb2 hS1' W1
     gi_wp2
     gi_loopg [5] k (fun kq v5 wr => ∃ (x0 x1 y0 y1 : Int) (out : List S23) (vo : Value), Aside0 (yard_Touching.l0 kq a0 x0 x1 y0 y1 out a1_0 a1_1 = some (r1, r2)) ∧ Aside0 (kq ≤ k) ∧ Aside0 (wr.heap[w.heap.size]? = some (.cells #[.int .i64 a1_0, .int .i64 a1_1] 23 (0, 0))) ∧ Aside0 (wr.heap[s6]? = some (.cells #[vo] 54 (0, 0))) ∧ Aside0 (wr.heap[s6 + 1]? = some (.cells #[.int .i64 a0] 3 (0, 0))) ∧ Aside0 (wr.heap[g3]? = some (.cells #[.int .i64 x0, .int .i64 x1] 23 (0, 0))) ∧ Aside0 (wr.heap[g4]? = some (.cells #[.int .i64 y0, .int .i64 y1] 23 (0, 0))) ∧ Aside0 (Kd.R k23 23 wr w.heap.size (fun q => s6 + 4 ≤ q ∧ q ≠ g3 ∧ q ≠ g4) vo out) ∧ Aside0 (RR wr .ready none) ∧ Aside0 (Below w.heap.size w wr))
     case atStart => exact ⟨0, 1, 1, a0, [], _, H', ⟨Nat.le_refl _⟩, B3, B6, Bn, F3, F4, HO, hR, HB⟩
     case round =>
      clear H' B3 B6 Bn F3 F4 hR HB HO
      obtain ⟨x0, x1, y0, y1, out, vo, HA, HK, B3, B6, Bn, F3, F4, HO, hR, HB⟩ := hrel
      cases gk with
      | zero => exact absurd HA.out (by simp [yard_Touching.l0])
      | succ k1 =>
       have H := HA.out
       clear HA
       simp only [yard_Touching.l0] at H
       obtain ⟨t1, A5, H⟩ := Option.bind_eq_some_iff.mp H
       obtain ⟨t2, A6, H⟩ := Option.bind_eq_some_iff.mp H
       have A5 := Aside0.mk A5
       have A6 := Aside0.mk A6
       have H' := Aside0.mk H
       clear H
       have hRec := (hRR.out _ _ _).1 hR.out
       have hy := run_yield (P := Try.prog) (args := #[.agg #[.int .i64 x0, .int .i64 x1]]) hRec.L rfl
       simp at hy
       have hcF3_0 := blk_cell F3.out 0
       have hcF3_1 := blk_cell F3.out 1
       simp at hcF3_0 hcF3_1
       replace hRec := Aside0.mk hRec
       gi_wp2
       have hlr := blk_lt hRec.out.L
       have hlD : D ≠ l := (by have := hl'.out; have := hD'.out; have := hge3.out; have := hge4.out; have := hs6.out; omega)
       obtain ⟨Wa, hWa⟩ : ∃ Wa, Wa = wr.alloc (.cells #[.int .i64 x0, .int .i64 x1] 23 (0, 0)) := ⟨_, rfl⟩
       have hba : Below wr.heap.size wr Wa := by rw [hWa]; exact below_alloc (Below.refl _ _) _
       have hRa := rec_below (fun _ _ _ => Iff.rfl) hRec.out hba
       obtain ⟨W3, hb3, R4, hk3⟩ := rec_begin (P := Try.prog) hRa hlD
       have Bf : W3.heap[wr.heap.size]? = some (.cells #[.int .i64 x0, .int .i64 x1] 23 (0, 0)) := by rw [hk3.other _ (by omega), hWa]; exact blk_new _ _
       have HBa := hk3.below w.heap.size w (by have := hl'.out; have := hD'.out; have := hge3.out; have := hge4.out; have := hs6.out; omega) (below_step HB.out hba)
       replace B3 := Aside0.mk ((hk3.other _ (by have := hl'.out; have := hD'.out; have := hge3.out; have := hge4.out; have := hs6.out; omega)).trans (blk_below B3.out hba))
       replace B6 := Aside0.mk ((hk3.other _ (by have := hl'.out; have := hD'.out; have := hge3.out; have := hge4.out; have := hs6.out; omega)).trans (blk_below B6.out hba))
       replace Bn := Aside0.mk ((hk3.other _ (by have := hl'.out; have := hD'.out; have := hge3.out; have := hge4.out; have := hs6.out; omega)).trans (blk_below Bn.out hba))
       replace F3 := Aside0.mk ((hk3.other _ (by have := hl'.out; have := hD'.out; have := hge3.out; have := hge4.out; have := hs6.out; omega)).trans (blk_below F3.out hba))
       replace F4 := Aside0.mk ((hk3.other _ (by have := hl'.out; have := hD'.out; have := hge3.out; have := hge4.out; have := hs6.out; omega)).trans (blk_below F4.out hba))
       replace Bf := Aside0.mk Bf
       replace HO := Aside0.mk (Kd.R_step (Kd.R_below HO.out hba) (fun q ho _ => hk3.other q (by have := ho.1; have := hl'.out; omega)))
       replace HB := Aside0.mk HBa
       replace R4 := Aside0.mk R4
       have hlr' := Aside0.mk hlr
       have hlD' := Aside0.mk hlD
       have hs3 : Aside0 (W3.heap.size = wr.heap.size + 1) := ⟨by rw [hk3.size, hWa]; simp⟩
       refine roundIn_of_wpIn hfn ?_
       gi_wp2
       rw [← hWa]
       refine ⟨W3, hb3, ?_⟩
       clear hy hb3 hk3 HBa hRa hba hWa hRec hcF3_0 hcF3_1 hR hlr hlD
       cases t1 with
       | true =>
        have e2 : t2 = true := by have := A6.out; simpa using this.symm
        subst e2
        have H := H'.out
        clear H' A6
        rw [if_pos rfl] at H
        by_cases c9 : out.length < 1000000
        case neg =>
         rw [if_neg c9] at H; simp at H
        rw [if_pos c9] at H
        have H' := Aside0.mk H
        clear H
        have HL := Aside0.mk c9
        obtain ⟨Ao, co, eo⟩ := Kd.R_slice HO.out
        subst eo
        have hcf_0 := blk_cell Bf.out 0; have hcf_1 := blk_cell Bf.out 1; have hcb_0 := blk_cell B3.out 0; have hcb_1 := blk_cell B3.out 1; have hco := blk_cell B6.out 0; have hfo := blk_frozen B6.out 0; have hlo := blk_lt B6.out; simp at hcf_0 hcf_1 hcb_0 hcb_1 hco
        gi_wp2_with (first | (refine ⟨trivial, ?_⟩; gi_at_call 68; (with_reducible refine (CallsIn.inRound l (callsIn_wide.2 (yard_beside.calls a1_0 a1_1 x0 x1 true _ A5.out))).mono ?_); rintro e wc ⟨rfl, hbc⟩; have nB3 := Aside0.mk (blk_below B3.out hbc); have nB6 := Aside0.mk (blk_below B6.out hbc); have nBn := Aside0.mk (blk_below Bn.out hbc); have nF3 := Aside0.mk (blk_below F3.out hbc); have nF4 := Aside0.mk (blk_below F4.out hbc); have nBf := Aside0.mk (blk_below Bf.out hbc); have nHO := Aside0.mk (Kd.R_below HO.out hbc); have nHB := Aside0.mk (below_step HB.out hbc); have nR4 := Aside0.mk (rec_below (fun _ _ _ => Iff.rfl) R4.out hbc); clear hcf_0 hcf_1 hcb_0 hcb_1 hco hfo hlo B3 B6 Bn F3 F4 Bf HO HB R4 hbc; have B3 := nB3; have B6 := nB6; have Bn := nBn; have F3 := nF3; have F4 := nF4; have Bf := nBf; have HO := nHO; have HB := nHB; have R4 := nR4; clear nB3 nB6 nBn nF3 nF4 nBf nHO nHB nR4; have hcf_0 := blk_cell Bf.out 0; have hcf_1 := blk_cell Bf.out 1; have hcb_0 := blk_cell B3.out 0; have hcb_1 := blk_cell B3.out 1; have hco := blk_cell B6.out 0; have hfo := blk_frozen B6.out 0; have hlo := blk_lt B6.out; simp at hcf_0 hcf_1 hcb_0 hcb_1 hco) | (refine ⟨show Fence.wide.fn 68 from trivial, ?_⟩) | (gi_at_builtin; refine R_appendIn k23 (w0 := w) w.heap.size rfl (.tmp 33) (.tmp 35) 54 23 (.agg #[.int .i64 0, .int .i64 0]) 16 rfl Try.underlying54 info23 rfl (by decide) (by omega) (.slice Ao out.length co) out ⟨x0, x1⟩ [.int .i64 x0, .int .i64 x1] (fun q => s6 + 4 ≤ q ∧ q ≠ g3 ∧ q ≠ g4) (fun _ => False) rfl rfl ?aP (fun _ hk => hk.elim) ?aF ?aO ?aB ?aS ?aL ?_; (case aP => exact k23_mkM _ _ _ _); (case aF => exact (fun q hq => ⟨by have := hge3.out; have := blk_lt F3.out; omega, by have := blk_lt F3.out; omega, by have := blk_lt F4.out; omega⟩)); (case aO => exact HO.out); (case aB => exact HB.out); (case aS => exact HB.out.size); (case aL => have := HL.out; omega); intro v5 w6 ho hb hg hat; have ne : ∀ q, (q < s6 + 4 ∨ q = g3 ∨ q = g4) → some q ≠ (Value.slice Ao out.length co).ownBlock := (fun q hq e => by have := HO.out.1 q e.symm; omega); have nB3 := Aside0.mk (blk_grown B3.out hg (ne _ (.inl (by have := hs6.out; omega)))); have nB6 := Aside0.mk (blk_grown B6.out hg (ne _ (.inl (by omega)))); have nBn := Aside0.mk (blk_grown Bn.out hg (ne _ (.inl (by omega)))); have nF3 := Aside0.mk (blk_grown F3.out hg (ne _ (.inr (.inl rfl)))); have nF4 := Aside0.mk (blk_grown F4.out hg (ne _ (.inr (.inr rfl)))); have nHO := Aside0.mk ho; have nHB := Aside0.mk hb; have nR4 := Aside0.mk (rec_same R4.out (hg.block l (blk_lt R4.out.L) (ne _ (.inl (by have := hl'.out; omega)))) (hg.block D (blk_lt R4.out.K) (ne _ (.inl (by have := hD'.out; omega))))); clear hcf_0 hcf_1 hcb_0 hcb_1 hco hfo hlo Bf B3 B6 Bn F3 F4 HO HB R4 hb hg hat ho ne; have B3 := nB3; have B6 := nB6; have Bn := nBn; have F3 := nF3; have F4 := nF4; have HO := nHO; have HB := nHB; have R4 := nR4; clear nB3 nB6 nBn nF3 nF4 nHO nHB nR4; obtain ⟨An, cn, en⟩ := Kd.R_slice HO.out; subst en; have hco := blk_cell B6.out 0; have hfo := blk_frozen B6.out 0; simp at hco))
        rw [show out.length + 1 = (out ++ [(⟨x0, x1⟩ : S23)]).length from (by simp)]
        obtain ⟨W4, hW4⟩ : ∃ W4, W4 = w6.setCell ⟨s6, 0, none⟩ (.slice An (out ++ [(⟨x0, x1⟩ : S23)]).length cn) := ⟨_, rfl⟩
        rw [← hW4]
        have e4 : ∀ q, q ≠ s6 → W4.heap[q]? = w6.heap[q]? := fun q h1 => by rw [hW4, Below.heap_setCell _ _ _ q h1]
        replace R4 := Aside0.mk (rec_same R4.out (e4 l (by have := hl'.out; have := hD'.out; have := hge3.out; have := hge4.out; have := hs6.out; omega)) (e4 D (by have := hl'.out; have := hD'.out; have := hge3.out; have := hge4.out; have := hs6.out; omega)))
        replace B3 := Aside0.mk ((e4 _ (by have := hl'.out; have := hD'.out; have := hge3.out; have := hge4.out; have := hs6.out; omega)).trans B3.out)
        replace Bn := Aside0.mk ((e4 _ (by have := hl'.out; have := hD'.out; have := hge3.out; have := hge4.out; have := hs6.out; omega)).trans Bn.out)
        replace F3 := Aside0.mk ((e4 _ (by have := hl'.out; have := hD'.out; have := hge3.out; have := hge4.out; have := hs6.out; omega)).trans F3.out)
        replace F4 := Aside0.mk ((e4 _ (by have := hl'.out; have := hD'.out; have := hge3.out; have := hge4.out; have := hs6.out; omega)).trans F4.out)
        replace HO := Aside0.mk (Kd.R_step HO.out (fun q ho _ => e4 q (by have := ho.1; omega)))
        have C6 : W4.heap[s6]? = some (.cells #[.slice An (out ++ [(⟨x0, x1⟩ : S23)]).length cn] 54 (0, 0)) := by rw [hW4]; exact blk_put B6.out 0 _ rfl
        replace HB : Aside0 (Below w.heap.size w W4) := ⟨by rw [hW4]; exact below_set HB.out (by have := hl'.out; have := hD'.out; have := hge3.out; have := hge4.out; have := hs6.out; omega)⟩
        replace B6 := Aside0.mk C6
        clear hW4 e4 C6 hco hfo
        obtain ⟨W5, hend, R5, hk5⟩ := rec_end (P := Try.prog) none R4.out hlD'.out
        replace B3 := Aside0.mk ((hk5.other _ (by have := hl'.out; have := hD'.out; have := hge3.out; have := hge4.out; have := hs6.out; omega)).trans B3.out)
        replace B6 := Aside0.mk ((hk5.other _ (by have := hl'.out; have := hD'.out; have := hge3.out; have := hge4.out; have := hs6.out; omega)).trans B6.out)
        replace Bn := Aside0.mk ((hk5.other _ (by have := hl'.out; have := hD'.out; have := hge3.out; have := hge4.out; have := hs6.out; omega)).trans Bn.out)
        replace F3 := Aside0.mk ((hk5.other _ (by have := hl'.out; have := hD'.out; have := hge3.out; have := hge4.out; have := hs6.out; omega)).trans F3.out)
        replace F4 := Aside0.mk ((hk5.other _ (by have := hl'.out; have := hD'.out; have := hge3.out; have := hge4.out; have := hs6.out; omega)).trans F4.out)
        replace HO := Aside0.mk (Kd.R_step HO.out (fun q ho _ => hk5.other q (by have := ho.1; have := hl'.out; omega)))
        replace HB := Aside0.mk (hk5.below _ _ (by have := hl'.out; have := hD'.out; have := hge3.out; have := hge4.out; have := hs6.out; omega) HB.out)
        replace R5 := Aside0.mk R5
        clear R4 hk5
        have hc3_0 := blk_cell F3.out 0
        have hc3_1 := blk_cell F3.out 1
        have hf3_0 := blk_frozen F3.out 0
        have hf3_1 := blk_frozen F3.out 1
        have hcg_0 := blk_cell F4.out 0
        have hcg_1 := blk_cell F4.out 1
        have hfg_0 := blk_frozen F4.out 0
        have hfg_1 := blk_frozen F4.out 1
        have hcn := blk_cell Bn.out 0
        simp at hc3_0 hc3_1 hcg_0 hcg_1 hcn
        by_cases c3 : x0 < x1
        ·have H := H'.out
         clear H'
         rw [if_pos c3] at H
         have c3b : decide (x0 < x1) = true := decide_eq_true c3
         clear c3
         by_cases c4 : y1 = 0
         ·rw [if_pos c4] at H; simp at H
         rw [if_neg c4] at H
         have c4b : (y1 == 0) = false := beq_eq_false_iff_ne.mpr c4
         have H' := Aside0.mk H
         clear H
         have hnn := hne.out
         have hnn' := Ne.symm hne.out
         refine ⟨_, W5, hend, ?_⟩
         gi_wp2
         gi_region
         gi_wp2
         obtain ⟨W8, hW8⟩ : ∃ W8, W8 = (((((W5.setCell ⟨g3, 0, none⟩ (.int .i64 y0)).setCell ⟨g3, 1, none⟩ (.int .i64 y1)).setCell ⟨g4, 0, none⟩ (.int .i64 (wrap64 (wrap64 (wrap64 (Int.tdiv (wrap64 (a0 + x1)) y1) * y0) - x0)))).setCell ⟨g4, 1, none⟩ (.int .i64 (wrap64 (wrap64 (wrap64 (Int.tdiv (wrap64 (a0 + x1)) y1) * y1) - x1)))).drew) := ⟨_, rfl⟩
         rw [← hW8]
         have e8 : ∀ q, q ≠ g3 → q ≠ g4 → W8.heap[q]? = W5.heap[q]? := fun q h3 h4 => by
          rw [hW8, heap_drew, Below.heap_setCell _ _ _ q h4, Below.heap_setCell _ _ _ q h4, Below.heap_setCell _ _ _ q h3, Below.heap_setCell _ _ _ q h3]
         have G3 : W8.heap[g3]? = some (.cells #[.int .i64 y0, .int .i64 y1] 23 (0, 0)) := by
          rw [hW8, heap_drew, Below.heap_setCell _ _ _ g3 hne.out, Below.heap_setCell _ _ _ g3 hne.out]
          exact blk_put (cs := #[.int .i64 y0, .int .i64 x1]) (blk_put (cs := #[.int .i64 x0, .int .i64 x1]) F3.out 0 _ rfl) 1 _ rfl
         have G4 : W8.heap[g4]? = some (.cells #[.int .i64 (wrap64 (wrap64 (wrap64 (Int.tdiv (wrap64 (a0 + x1)) y1) * y0) - x0)), .int .i64 (wrap64 (wrap64 (wrap64 (Int.tdiv (wrap64 (a0 + x1)) y1) * y1) - x1))] 23 (0, 0)) := by
          rw [hW8, heap_drew]
          exact blk_put (cs := #[.int .i64 (wrap64 (wrap64 (wrap64 (Int.tdiv (wrap64 (a0 + x1)) y1) * y0) - x0)), .int .i64 y1]) (blk_put (cs := #[.int .i64 y0, .int .i64 y1]) (blk_far (blk_far F4.out (Ne.symm hne.out) _) (Ne.symm hne.out) _) 0 _ rfl) 1 _ rfl
         have HB8 : Below w.heap.size w W8 := by
          rw [hW8]
          exact below_drew1 (below_set (below_set (below_set (below_set HB.out (by have := hl'.out; have := hD'.out; have := hge3.out; have := hge4.out; have := hs6.out; omega)) (by have := hl'.out; have := hD'.out; have := hge3.out; have := hge4.out; have := hs6.out; omega)) (by have := hl'.out; have := hD'.out; have := hge3.out; have := hge4.out; have := hs6.out; omega)) (by have := hl'.out; have := hD'.out; have := hge3.out; have := hge4.out; have := hs6.out; omega))
         have R8 := (hRR.out _ _ _).2 (rec_far R5.out e8 (by have := hl'.out; have := hD'.out; have := hge3.out; have := hge4.out; have := hs6.out; omega) (by have := hl'.out; have := hD'.out; have := hge3.out; have := hge4.out; have := hs6.out; omega) (by have := hl'.out; have := hD'.out; have := hge3.out; have := hge4.out; have := hs6.out; omega) (by have := hl'.out; have := hD'.out; have := hge3.out; have := hge4.out; have := hs6.out; omega))
         have K8 := (e8 _ (by have := hl'.out; have := hD'.out; have := hge3.out; have := hge4.out; have := hs6.out; omega) (by have := hl'.out; have := hD'.out; have := hge3.out; have := hge4.out; have := hs6.out; omega)).trans B3.out
         have M8 := (e8 _ (by have := hl'.out; have := hD'.out; have := hge3.out; have := hge4.out; have := hs6.out; omega) (by have := hl'.out; have := hD'.out; have := hge3.out; have := hge4.out; have := hs6.out; omega)).trans B6.out
         have P8 := (e8 _ (by have := hl'.out; have := hD'.out; have := hge3.out; have := hge4.out; have := hs6.out; omega) (by have := hl'.out; have := hD'.out; have := hge3.out; have := hge4.out; have := hs6.out; omega)).trans Bn.out
         have O8 := Kd.R_step HO.out (fun q ho _ => e8 q ho.2.1 ho.2.2)
         clear hW8 e8
         gi_roundg k1
         case measure => have := HK.out; omega
         case rel => exact ⟨y0, y1, (wrap64 (wrap64 (wrap64 (Int.tdiv (wrap64 (a0 + x1)) y1) * y0) - x0)), (wrap64 (wrap64 (wrap64 (Int.tdiv (wrap64 (a0 + x1)) y1) * y1) - x1)), (out ++ [⟨x0, x1⟩]), _, H', ⟨by have := HK.out; omega⟩, ⟨K8⟩, ⟨M8⟩, ⟨P8⟩, ⟨G3⟩, ⟨G4⟩, ⟨O8⟩, ⟨R8⟩, ⟨HB8⟩⟩
        ·have H := H'.out
         clear H'
         rw [if_neg c3] at H
         have c3b : decide (x0 < x1) = false := decide_eq_false c3
         clear c3
         simp only [Option.some.injEq, Prod.mk.injEq] at H
         obtain ⟨hr1, hr2⟩ := H
         obtain ⟨W6, hov, hK6, hk6⟩ := rec_over (P := Try.prog) R5.out hlD'.out (by decide)
         have D6 := Aside0.mk ((hk6.other _ (by have := hl'.out; have := hD'.out; have := hge3.out; have := hge4.out; have := hs6.out; omega)).trans B6.out)
         have HO6 := Aside0.mk (Kd.R_step HO.out (fun q ho _ => hk6.other q (by have := ho.1; have := hl'.out; omega)))
         have HB6 := Aside0.mk (hk6.below _ _ (by have := hl'.out; have := hD'.out; have := hge3.out; have := hge4.out; have := hs6.out; omega) HB.out)
         have hK6' := Aside0.mk hK6
         have hr1 := Aside0.mk hr1
         have hr2 := Aside0.mk hr2
         clear hk6 hK6
         have hd6 := blk_cell D6.out 0
         have hd6f := blk_frozen D6.out 0
         simp at hd6
         refine ⟨_, W5, hend, ?_⟩
         gi_wp2
         go_end0
         refine ⟨none, W6, hov, ?_⟩
         gi_wp2
         refine ⟨by simp, .inl ⟨_, _, rfl, run_takeDeferred hK6'.out, ?_⟩⟩
         have rk := recKept_put hK6'.out (.deferred none)
         refine ⟨_, by simp [results, Try.f52, go_sem]; rfl, _, by rw [← hr2.out], ?_, rk.below _ _ (by have := hl'.out; have := hD'.out; have := hge3.out; have := hge4.out; have := hs6.out; omega) HB6.out⟩
         rw [← hr1.out]
         (try rw [show out.length + 1 = (out ++ [(⟨x0, x1⟩ : S23)]).length from (by simp)])
         exact Kd.R_mono (Kd.R_step HO6.out (fun q ho _ => rk.other q (by have := ho.1; have := hD'.out; omega))) (fun _ _ => trivial)
       | false =>
        replace A6 := Aside0.mk (show yard_beside.f x0 x1 a1_0 a1_1 = some t2 by have := A6.out; rwa [if_neg (by decide)] at this)
        cases t2 with
        | true =>
         have H := H'.out
         clear H'
         rw [if_pos rfl] at H
         by_cases c9 : out.length < 1000000
         case neg =>
          rw [if_neg c9] at H; simp at H
         rw [if_pos c9] at H
         have H' := Aside0.mk H
         clear H
         have HL := Aside0.mk c9
         obtain ⟨Ao, co, eo⟩ := Kd.R_slice HO.out
         subst eo
         have hcf_0 := blk_cell Bf.out 0; have hcf_1 := blk_cell Bf.out 1; have hcb_0 := blk_cell B3.out 0; have hcb_1 := blk_cell B3.out 1; have hco := blk_cell B6.out 0; have hfo := blk_frozen B6.out 0; have hlo := blk_lt B6.out; simp at hcf_0 hcf_1 hcb_0 hcb_1 hco
         gi_wp2_with (first | (refine ⟨trivial, ?_⟩; gi_at_call 68; (with_reducible refine (CallsIn.inRound l (callsIn_wide.2 (yard_beside.calls a1_0 a1_1 x0 x1 false _ A5.out))).mono ?_); rintro e wc ⟨rfl, hbc⟩; have nB3 := Aside0.mk (blk_below B3.out hbc); have nB6 := Aside0.mk (blk_below B6.out hbc); have nBn := Aside0.mk (blk_below Bn.out hbc); have nF3 := Aside0.mk (blk_below F3.out hbc); have nF4 := Aside0.mk (blk_below F4.out hbc); have nBf := Aside0.mk (blk_below Bf.out hbc); have nHO := Aside0.mk (Kd.R_below HO.out hbc); have nHB := Aside0.mk (below_step HB.out hbc); have nR4 := Aside0.mk (rec_below (fun _ _ _ => Iff.rfl) R4.out hbc); clear hcf_0 hcf_1 hcb_0 hcb_1 hco hfo hlo B3 B6 Bn F3 F4 Bf HO HB R4 hbc; have B3 := nB3; have B6 := nB6; have Bn := nBn; have F3 := nF3; have F4 := nF4; have Bf := nBf; have HO := nHO; have HB := nHB; have R4 := nR4; clear nB3 nB6 nBn nF3 nF4 nBf nHO nHB nR4; have hcf_0 := blk_cell Bf.out 0; have hcf_1 := blk_cell Bf.out 1; have hcb_0 := blk_cell B3.out 0; have hcb_1 := blk_cell B3.out 1; have hco := blk_cell B6.out 0; have hfo := blk_frozen B6.out 0; have hlo := blk_lt B6.out; simp at hcf_0 hcf_1 hcb_0 hcb_1 hco) | (refine ⟨trivial, ?_⟩; gi_at_call 68; (with_reducible refine (CallsIn.inRound l (callsIn_wide.2 (yard_beside.calls x0 x1 a1_0 a1_1 true _ A6.out))).mono ?_); rintro e wc ⟨rfl, hbc⟩; have nB3 := Aside0.mk (blk_below B3.out hbc); have nB6 := Aside0.mk (blk_below B6.out hbc); have nBn := Aside0.mk (blk_below Bn.out hbc); have nF3 := Aside0.mk (blk_below F3.out hbc); have nF4 := Aside0.mk (blk_below F4.out hbc); have nBf := Aside0.mk (blk_below Bf.out hbc); have nHO := Aside0.mk (Kd.R_below HO.out hbc); have nHB := Aside0.mk (below_step HB.out hbc); have nR4 := Aside0.mk (rec_below (fun _ _ _ => Iff.rfl) R4.out hbc); clear hcf_0 hcf_1 hcb_0 hcb_1 hco hfo hlo B3 B6 Bn F3 F4 Bf HO HB R4 hbc; have B3 := nB3; have B6 := nB6; have Bn := nBn; have F3 := nF3; have F4 := nF4; have Bf := nBf; have HO := nHO; have HB := nHB; have R4 := nR4; clear nB3 nB6 nBn nF3 nF4 nBf nHO nHB nR4; have hcf_0 := blk_cell Bf.out 0; have hcf_1 := blk_cell Bf.out 1; have hcb_0 := blk_cell B3.out 0; have hcb_1 := blk_cell B3.out 1; have hco := blk_cell B6.out 0; have hfo := blk_frozen B6.out 0; have hlo := blk_lt B6.out; simp at hcf_0 hcf_1 hcb_0 hcb_1 hco) | (refine ⟨show Fence.wide.fn 68 from trivial, ?_⟩) | (gi_at_builtin; refine R_appendIn k23 (w0 := w) w.heap.size rfl (.tmp 33) (.tmp 35) 54 23 (.agg #[.int .i64 0, .int .i64 0]) 16 rfl Try.underlying54 info23 rfl (by decide) (by omega) (.slice Ao out.length co) out ⟨x0, x1⟩ [.int .i64 x0, .int .i64 x1] (fun q => s6 + 4 ≤ q ∧ q ≠ g3 ∧ q ≠ g4) (fun _ => False) rfl rfl ?aP (fun _ hk => hk.elim) ?aF ?aO ?aB ?aS ?aL ?_; (case aP => exact k23_mkM _ _ _ _); (case aF => exact (fun q hq => ⟨by have := hge3.out; have := blk_lt F3.out; omega, by have := blk_lt F3.out; omega, by have := blk_lt F4.out; omega⟩)); (case aO => exact HO.out); (case aB => exact HB.out); (case aS => exact HB.out.size); (case aL => have := HL.out; omega); intro v5 w6 ho hb hg hat; have ne : ∀ q, (q < s6 + 4 ∨ q = g3 ∨ q = g4) → some q ≠ (Value.slice Ao out.length co).ownBlock := (fun q hq e => by have := HO.out.1 q e.symm; omega); have nB3 := Aside0.mk (blk_grown B3.out hg (ne _ (.inl (by have := hs6.out; omega)))); have nB6 := Aside0.mk (blk_grown B6.out hg (ne _ (.inl (by omega)))); have nBn := Aside0.mk (blk_grown Bn.out hg (ne _ (.inl (by omega)))); have nF3 := Aside0.mk (blk_grown F3.out hg (ne _ (.inr (.inl rfl)))); have nF4 := Aside0.mk (blk_grown F4.out hg (ne _ (.inr (.inr rfl)))); have nHO := Aside0.mk ho; have nHB := Aside0.mk hb; have nR4 := Aside0.mk (rec_same R4.out (hg.block l (blk_lt R4.out.L) (ne _ (.inl (by have := hl'.out; omega)))) (hg.block D (blk_lt R4.out.K) (ne _ (.inl (by have := hD'.out; omega))))); clear hcf_0 hcf_1 hcb_0 hcb_1 hco hfo hlo Bf B3 B6 Bn F3 F4 HO HB R4 hb hg hat ho ne; have B3 := nB3; have B6 := nB6; have Bn := nBn; have F3 := nF3; have F4 := nF4; have HO := nHO; have HB := nHB; have R4 := nR4; clear nB3 nB6 nBn nF3 nF4 nHO nHB nR4; obtain ⟨An, cn, en⟩ := Kd.R_slice HO.out; subst en; have hco := blk_cell B6.out 0; have hfo := blk_frozen B6.out 0; simp at hco))
         rw [show out.length + 1 = (out ++ [(⟨x0, x1⟩ : S23)]).length from (by simp)]
         obtain ⟨W4, hW4⟩ : ∃ W4, W4 = w6.setCell ⟨s6, 0, none⟩ (.slice An (out ++ [(⟨x0, x1⟩ : S23)]).length cn) := ⟨_, rfl⟩
         rw [← hW4]
         have e4 : ∀ q, q ≠ s6 → W4.heap[q]? = w6.heap[q]? := fun q h1 => by rw [hW4, Below.heap_setCell _ _ _ q h1]
         replace R4 := Aside0.mk (rec_same R4.out (e4 l (by have := hl'.out; have := hD'.out; have := hge3.out; have := hge4.out; have := hs6.out; omega)) (e4 D (by have := hl'.out; have := hD'.out; have := hge3.out; have := hge4.out; have := hs6.out; omega)))
         replace B3 := Aside0.mk ((e4 _ (by have := hl'.out; have := hD'.out; have := hge3.out; have := hge4.out; have := hs6.out; omega)).trans B3.out)
         replace Bn := Aside0.mk ((e4 _ (by have := hl'.out; have := hD'.out; have := hge3.out; have := hge4.out; have := hs6.out; omega)).trans Bn.out)
         replace F3 := Aside0.mk ((e4 _ (by have := hl'.out; have := hD'.out; have := hge3.out; have := hge4.out; have := hs6.out; omega)).trans F3.out)
         replace F4 := Aside0.mk ((e4 _ (by have := hl'.out; have := hD'.out; have := hge3.out; have := hge4.out; have := hs6.out; omega)).trans F4.out)
         replace HO := Aside0.mk (Kd.R_step HO.out (fun q ho _ => e4 q (by have := ho.1; omega)))
         have C6 : W4.heap[s6]? = some (.cells #[.slice An (out ++ [(⟨x0, x1⟩ : S23)]).length cn] 54 (0, 0)) := by rw [hW4]; exact blk_put B6.out 0 _ rfl
         replace HB : Aside0 (Below w.heap.size w W4) := ⟨by rw [hW4]; exact below_set HB.out (by have := hl'.out; have := hD'.out; have := hge3.out; have := hge4.out; have := hs6.out; omega)⟩
         replace B6 := Aside0.mk C6
         clear hW4 e4 C6 hco hfo
         obtain ⟨W5, hend, R5, hk5⟩ := rec_end (P := Try.prog) none R4.out hlD'.out
         replace B3 := Aside0.mk ((hk5.other _ (by have := hl'.out; have := hD'.out; have := hge3.out; have := hge4.out; have := hs6.out; omega)).trans B3.out)
         replace B6 := Aside0.mk ((hk5.other _ (by have := hl'.out; have := hD'.out; have := hge3.out; have := hge4.out; have := hs6.out; omega)).trans B6.out)
         replace Bn := Aside0.mk ((hk5.other _ (by have := hl'.out; have := hD'.out; have := hge3.out; have := hge4.out; have := hs6.out; omega)).trans Bn.out)
         replace F3 := Aside0.mk ((hk5.other _ (by have := hl'.out; have := hD'.out; have := hge3.out; have := hge4.out; have := hs6.out; omega)).trans F3.out)
         replace F4 := Aside0.mk ((hk5.other _ (by have := hl'.out; have := hD'.out; have := hge3.out; have := hge4.out; have := hs6.out; omega)).trans F4.out)
         replace HO := Aside0.mk (Kd.R_step HO.out (fun q ho _ => hk5.other q (by have := ho.1; have := hl'.out; omega)))
         replace HB := Aside0.mk (hk5.below _ _ (by have := hl'.out; have := hD'.out; have := hge3.out; have := hge4.out; have := hs6.out; omega) HB.out)
         replace R5 := Aside0.mk R5
         clear R4 hk5
         have hc3_0 := blk_cell F3.out 0
         have hc3_1 := blk_cell F3.out 1
         have hf3_0 := blk_frozen F3.out 0
         have hf3_1 := blk_frozen F3.out 1
         have hcg_0 := blk_cell F4.out 0
         have hcg_1 := blk_cell F4.out 1
         have hfg_0 := blk_frozen F4.out 0
         have hfg_1 := blk_frozen F4.out 1
         have hcn := blk_cell Bn.out 0
         simp at hc3_0 hc3_1 hcg_0 hcg_1 hcn
         by_cases c3 : x0 < x1
         ·have H := H'.out
          clear H'
          rw [if_pos c3] at H
          have c3b : decide (x0 < x1) = true := decide_eq_true c3
          clear c3
          by_cases c4 : y1 = 0
          ·rw [if_pos c4] at H; simp at H
          rw [if_neg c4] at H
          have c4b : (y1 == 0) = false := beq_eq_false_iff_ne.mpr c4
          have H' := Aside0.mk H
          clear H
          have hnn := hne.out
          have hnn' := Ne.symm hne.out
          refine ⟨_, W5, hend, ?_⟩
          gi_wp2
          gi_region
          gi_wp2
          obtain ⟨W8, hW8⟩ : ∃ W8, W8 = (((((W5.setCell ⟨g3, 0, none⟩ (.int .i64 y0)).setCell ⟨g3, 1, none⟩ (.int .i64 y1)).setCell ⟨g4, 0, none⟩ (.int .i64 (wrap64 (wrap64 (wrap64 (Int.tdiv (wrap64 (a0 + x1)) y1) * y0) - x0)))).setCell ⟨g4, 1, none⟩ (.int .i64 (wrap64 (wrap64 (wrap64 (Int.tdiv (wrap64 (a0 + x1)) y1) * y1) - x1)))).drew) := ⟨_, rfl⟩
          rw [← hW8]
          have e8 : ∀ q, q ≠ g3 → q ≠ g4 → W8.heap[q]? = W5.heap[q]? := fun q h3 h4 => by
           rw [hW8, heap_drew, Below.heap_setCell _ _ _ q h4, Below.heap_setCell _ _ _ q h4, Below.heap_setCell _ _ _ q h3, Below.heap_setCell _ _ _ q h3]
          have G3 : W8.heap[g3]? = some (.cells #[.int .i64 y0, .int .i64 y1] 23 (0, 0)) := by
           rw [hW8, heap_drew, Below.heap_setCell _ _ _ g3 hne.out, Below.heap_setCell _ _ _ g3 hne.out]
           exact blk_put (cs := #[.int .i64 y0, .int .i64 x1]) (blk_put (cs := #[.int .i64 x0, .int .i64 x1]) F3.out 0 _ rfl) 1 _ rfl
          have G4 : W8.heap[g4]? = some (.cells #[.int .i64 (wrap64 (wrap64 (wrap64 (Int.tdiv (wrap64 (a0 + x1)) y1) * y0) - x0)), .int .i64 (wrap64 (wrap64 (wrap64 (Int.tdiv (wrap64 (a0 + x1)) y1) * y1) - x1))] 23 (0, 0)) := by
           rw [hW8, heap_drew]
           exact blk_put (cs := #[.int .i64 (wrap64 (wrap64 (wrap64 (Int.tdiv (wrap64 (a0 + x1)) y1) * y0) - x0)), .int .i64 y1]) (blk_put (cs := #[.int .i64 y0, .int .i64 y1]) (blk_far (blk_far F4.out (Ne.symm hne.out) _) (Ne.symm hne.out) _) 0 _ rfl) 1 _ rfl
          have HB8 : Below w.heap.size w W8 := by
           rw [hW8]
           exact below_drew1 (below_set (below_set (below_set (below_set HB.out (by have := hl'.out; have := hD'.out; have := hge3.out; have := hge4.out; have := hs6.out; omega)) (by have := hl'.out; have := hD'.out; have := hge3.out; have := hge4.out; have := hs6.out; omega)) (by have := hl'.out; have := hD'.out; have := hge3.out; have := hge4.out; have := hs6.out; omega)) (by have := hl'.out; have := hD'.out; have := hge3.out; have := hge4.out; have := hs6.out; omega))
          have R8 := (hRR.out _ _ _).2 (rec_far R5.out e8 (by have := hl'.out; have := hD'.out; have := hge3.out; have := hge4.out; have := hs6.out; omega) (by have := hl'.out; have := hD'.out; have := hge3.out; have := hge4.out; have := hs6.out; omega) (by have := hl'.out; have := hD'.out; have := hge3.out; have := hge4.out; have := hs6.out; omega) (by have := hl'.out; have := hD'.out; have := hge3.out; have := hge4.out; have := hs6.out; omega))
          have K8 := (e8 _ (by have := hl'.out; have := hD'.out; have := hge3.out; have := hge4.out; have := hs6.out; omega) (by have := hl'.out; have := hD'.out; have := hge3.out; have := hge4.out; have := hs6.out; omega)).trans B3.out
          have M8 := (e8 _ (by have := hl'.out; have := hD'.out; have := hge3.out; have := hge4.out; have := hs6.out; omega) (by have := hl'.out; have := hD'.out; have := hge3.out; have := hge4.out; have := hs6.out; omega)).trans B6.out
          have P8 := (e8 _ (by have := hl'.out; have := hD'.out; have := hge3.out; have := hge4.out; have := hs6.out; omega) (by have := hl'.out; have := hD'.out; have := hge3.out; have := hge4.out; have := hs6.out; omega)).trans Bn.out
          have O8 := Kd.R_step HO.out (fun q ho _ => e8 q ho.2.1 ho.2.2)
          clear hW8 e8
          gi_roundg k1
          case measure => have := HK.out; omega
          case rel => exact ⟨y0, y1, (wrap64 (wrap64 (wrap64 (Int.tdiv (wrap64 (a0 + x1)) y1) * y0) - x0)), (wrap64 (wrap64 (wrap64 (Int.tdiv (wrap64 (a0 + x1)) y1) * y1) - x1)), (out ++ [⟨x0, x1⟩]), _, H', ⟨by have := HK.out; omega⟩, ⟨K8⟩, ⟨M8⟩, ⟨P8⟩, ⟨G3⟩, ⟨G4⟩, ⟨O8⟩, ⟨R8⟩, ⟨HB8⟩⟩
         ·have H := H'.out
          clear H'
          rw [if_neg c3] at H
          have c3b : decide (x0 < x1) = false := decide_eq_false c3
          clear c3
          simp only [Option.some.injEq, Prod.mk.injEq] at H
          obtain ⟨hr1, hr2⟩ := H
          obtain ⟨W6, hov, hK6, hk6⟩ := rec_over (P := Try.prog) R5.out hlD'.out (by decide)
          have D6 := Aside0.mk ((hk6.other _ (by have := hl'.out; have := hD'.out; have := hge3.out; have := hge4.out; have := hs6.out; omega)).trans B6.out)
          have HO6 := Aside0.mk (Kd.R_step HO.out (fun q ho _ => hk6.other q (by have := ho.1; have := hl'.out; omega)))
          have HB6 := Aside0.mk (hk6.below _ _ (by have := hl'.out; have := hD'.out; have := hge3.out; have := hge4.out; have := hs6.out; omega) HB.out)
          have hK6' := Aside0.mk hK6
          have hr1 := Aside0.mk hr1
          have hr2 := Aside0.mk hr2
          clear hk6 hK6
          have hd6 := blk_cell D6.out 0
          have hd6f := blk_frozen D6.out 0
          simp at hd6
          refine ⟨_, W5, hend, ?_⟩
          gi_wp2
          go_end0
          refine ⟨none, W6, hov, ?_⟩
          gi_wp2
          refine ⟨by simp, .inl ⟨_, _, rfl, run_takeDeferred hK6'.out, ?_⟩⟩
          have rk := recKept_put hK6'.out (.deferred none)
          refine ⟨_, by simp [results, Try.f52, go_sem]; rfl, _, by rw [← hr2.out], ?_, rk.below _ _ (by have := hl'.out; have := hD'.out; have := hge3.out; have := hge4.out; have := hs6.out; omega) HB6.out⟩
          rw [← hr1.out]
          (try rw [show out.length + 1 = (out ++ [(⟨x0, x1⟩ : S23)]).length from (by simp)])
          exact Kd.R_mono (Kd.R_step HO6.out (fun q ho _ => rk.other q (by have := ho.1; have := hD'.out; omega))) (fun _ _ => trivial)
        | false =>
         have H := H'.out
         clear H'
         rw [if_neg (by decide)] at H
         have H' := Aside0.mk H
         clear H
         obtain ⟨Ao, co, eo⟩ := Kd.R_slice HO.out
         subst eo
         have hcf_0 := blk_cell Bf.out 0; have hcf_1 := blk_cell Bf.out 1; have hcb_0 := blk_cell B3.out 0; have hcb_1 := blk_cell B3.out 1; have hco := blk_cell B6.out 0; have hfo := blk_frozen B6.out 0; have hlo := blk_lt B6.out; simp at hcf_0 hcf_1 hcb_0 hcb_1 hco
         gi_wp2_with (first | (refine ⟨trivial, ?_⟩; gi_at_call 68; (with_reducible refine (CallsIn.inRound l (callsIn_wide.2 (yard_beside.calls a1_0 a1_1 x0 x1 false _ A5.out))).mono ?_); rintro e wc ⟨rfl, hbc⟩; have nB3 := Aside0.mk (blk_below B3.out hbc); have nB6 := Aside0.mk (blk_below B6.out hbc); have nBn := Aside0.mk (blk_below Bn.out hbc); have nF3 := Aside0.mk (blk_below F3.out hbc); have nF4 := Aside0.mk (blk_below F4.out hbc); have nBf := Aside0.mk (blk_below Bf.out hbc); have nHO := Aside0.mk (Kd.R_below HO.out hbc); have nHB := Aside0.mk (below_step HB.out hbc); have nR4 := Aside0.mk (rec_below (fun _ _ _ => Iff.rfl) R4.out hbc); clear hcf_0 hcf_1 hcb_0 hcb_1 hco hfo hlo B3 B6 Bn F3 F4 Bf HO HB R4 hbc; have B3 := nB3; have B6 := nB6; have Bn := nBn; have F3 := nF3; have F4 := nF4; have Bf := nBf; have HO := nHO; have HB := nHB; have R4 := nR4; clear nB3 nB6 nBn nF3 nF4 nBf nHO nHB nR4; have hcf_0 := blk_cell Bf.out 0; have hcf_1 := blk_cell Bf.out 1; have hcb_0 := blk_cell B3.out 0; have hcb_1 := blk_cell B3.out 1; have hco := blk_cell B6.out 0; have hfo := blk_frozen B6.out 0; have hlo := blk_lt B6.out; simp at hcf_0 hcf_1 hcb_0 hcb_1 hco) | (refine ⟨trivial, ?_⟩; gi_at_call 68; (with_reducible refine (CallsIn.inRound l (callsIn_wide.2 (yard_beside.calls x0 x1 a1_0 a1_1 false _ A6.out))).mono ?_); rintro e wc ⟨rfl, hbc⟩; have nB3 := Aside0.mk (blk_below B3.out hbc); have nB6 := Aside0.mk (blk_below B6.out hbc); have nBn := Aside0.mk (blk_below Bn.out hbc); have nF3 := Aside0.mk (blk_below F3.out hbc); have nF4 := Aside0.mk (blk_below F4.out hbc); have nBf := Aside0.mk (blk_below Bf.out hbc); have nHO := Aside0.mk (Kd.R_below HO.out hbc); have nHB := Aside0.mk (below_step HB.out hbc); have nR4 := Aside0.mk (rec_below (fun _ _ _ => Iff.rfl) R4.out hbc); clear hcf_0 hcf_1 hcb_0 hcb_1 hco hfo hlo B3 B6 Bn F3 F4 Bf HO HB R4 hbc; have B3 := nB3; have B6 := nB6; have Bn := nBn; have F3 := nF3; have F4 := nF4; have Bf := nBf; have HO := nHO; have HB := nHB; have R4 := nR4; clear nB3 nB6 nBn nF3 nF4 nBf nHO nHB nR4; have hcf_0 := blk_cell Bf.out 0; have hcf_1 := blk_cell Bf.out 1; have hcb_0 := blk_cell B3.out 0; have hcb_1 := blk_cell B3.out 1; have hco := blk_cell B6.out 0; have hfo := blk_frozen B6.out 0; have hlo := blk_lt B6.out; simp at hcf_0 hcf_1 hcb_0 hcb_1 hco) | (refine ⟨show Fence.wide.fn 68 from trivial, ?_⟩))
         clear hcf_0 hcf_1 hcb_0 hcb_1 hco hfo hlo Bf
         obtain ⟨W5, hend, R5, hk5⟩ := rec_end (P := Try.prog) none R4.out hlD'.out
         replace B3 := Aside0.mk ((hk5.other _ (by have := hl'.out; have := hD'.out; have := hge3.out; have := hge4.out; have := hs6.out; omega)).trans B3.out)
         replace B6 := Aside0.mk ((hk5.other _ (by have := hl'.out; have := hD'.out; have := hge3.out; have := hge4.out; have := hs6.out; omega)).trans B6.out)
         replace Bn := Aside0.mk ((hk5.other _ (by have := hl'.out; have := hD'.out; have := hge3.out; have := hge4.out; have := hs6.out; omega)).trans Bn.out)
         replace F3 := Aside0.mk ((hk5.other _ (by have := hl'.out; have := hD'.out; have := hge3.out; have := hge4.out; have := hs6.out; omega)).trans F3.out)
         replace F4 := Aside0.mk ((hk5.other _ (by have := hl'.out; have := hD'.out; have := hge3.out; have := hge4.out; have := hs6.out; omega)).trans F4.out)
         replace HO := Aside0.mk (Kd.R_step HO.out (fun q ho _ => hk5.other q (by have := ho.1; have := hl'.out; omega)))
         replace HB := Aside0.mk (hk5.below _ _ (by have := hl'.out; have := hD'.out; have := hge3.out; have := hge4.out; have := hs6.out; omega) HB.out)
         replace R5 := Aside0.mk R5
         clear R4 hk5
         have hc3_0 := blk_cell F3.out 0
         have hc3_1 := blk_cell F3.out 1
         have hf3_0 := blk_frozen F3.out 0
         have hf3_1 := blk_frozen F3.out 1
         have hcg_0 := blk_cell F4.out 0
         have hcg_1 := blk_cell F4.out 1
         have hfg_0 := blk_frozen F4.out 0
         have hfg_1 := blk_frozen F4.out 1
         have hcn := blk_cell Bn.out 0
         simp at hc3_0 hc3_1 hcg_0 hcg_1 hcn
         by_cases c3 : x0 < x1
         ·have H := H'.out
          clear H'
          rw [if_pos c3] at H
          have c3b : decide (x0 < x1) = true := decide_eq_true c3
          clear c3
          by_cases c4 : y1 = 0
          ·rw [if_pos c4] at H; simp at H
          rw [if_neg c4] at H
          have c4b : (y1 == 0) = false := beq_eq_false_iff_ne.mpr c4
          have H' := Aside0.mk H
          clear H
          have hnn := hne.out
          have hnn' := Ne.symm hne.out
          refine ⟨_, W5, hend, ?_⟩
          gi_wp2
          gi_region
          gi_wp2
          obtain ⟨W8, hW8⟩ : ∃ W8, W8 = (((((W5.setCell ⟨g3, 0, none⟩ (.int .i64 y0)).setCell ⟨g3, 1, none⟩ (.int .i64 y1)).setCell ⟨g4, 0, none⟩ (.int .i64 (wrap64 (wrap64 (wrap64 (Int.tdiv (wrap64 (a0 + x1)) y1) * y0) - x0)))).setCell ⟨g4, 1, none⟩ (.int .i64 (wrap64 (wrap64 (wrap64 (Int.tdiv (wrap64 (a0 + x1)) y1) * y1) - x1)))).drew) := ⟨_, rfl⟩
          rw [← hW8]
          have e8 : ∀ q, q ≠ g3 → q ≠ g4 → W8.heap[q]? = W5.heap[q]? := fun q h3 h4 => by
           rw [hW8, heap_drew, Below.heap_setCell _ _ _ q h4, Below.heap_setCell _ _ _ q h4, Below.heap_setCell _ _ _ q h3, Below.heap_setCell _ _ _ q h3]
          have G3 : W8.heap[g3]? = some (.cells #[.int .i64 y0, .int .i64 y1] 23 (0, 0)) := by
           rw [hW8, heap_drew, Below.heap_setCell _ _ _ g3 hne.out, Below.heap_setCell _ _ _ g3 hne.out]
           exact blk_put (cs := #[.int .i64 y0, .int .i64 x1]) (blk_put (cs := #[.int .i64 x0, .int .i64 x1]) F3.out 0 _ rfl) 1 _ rfl
          have G4 : W8.heap[g4]? = some (.cells #[.int .i64 (wrap64 (wrap64 (wrap64 (Int.tdiv (wrap64 (a0 + x1)) y1) * y0) - x0)), .int .i64 (wrap64 (wrap64 (wrap64 (Int.tdiv (wrap64 (a0 + x1)) y1) * y1) - x1))] 23 (0, 0)) := by
           rw [hW8, heap_drew]
           exact blk_put (cs := #[.int .i64 (wrap64 (wrap64 (wrap64 (Int.tdiv (wrap64 (a0 + x1)) y1) * y0) - x0)), .int .i64 y1]) (blk_put (cs := #[.int .i64 y0, .int .i64 y1]) (blk_far (blk_far F4.out (Ne.symm hne.out) _) (Ne.symm hne.out) _) 0 _ rfl) 1 _ rfl
          have HB8 : Below w.heap.size w W8 := by
           rw [hW8]
           exact below_drew1 (below_set (below_set (below_set (below_set HB.out (by have := hl'.out; have := hD'.out; have := hge3.out; have := hge4.out; have := hs6.out; omega)) (by have := hl'.out; have := hD'.out; have := hge3.out; have := hge4.out; have := hs6.out; omega)) (by have := hl'.out; have := hD'.out; have := hge3.out; have := hge4.out; have := hs6.out; omega)) (by have := hl'.out; have := hD'.out; have := hge3.out; have := hge4.out; have := hs6.out; omega))
          have R8 := (hRR.out _ _ _).2 (rec_far R5.out e8 (by have := hl'.out; have := hD'.out; have := hge3.out; have := hge4.out; have := hs6.out; omega) (by have := hl'.out; have := hD'.out; have := hge3.out; have := hge4.out; have := hs6.out; omega) (by have := hl'.out; have := hD'.out; have := hge3.out; have := hge4.out; have := hs6.out; omega) (by have := hl'.out; have := hD'.out; have := hge3.out; have := hge4.out; have := hs6.out; omega))
          have K8 := (e8 _ (by have := hl'.out; have := hD'.out; have := hge3.out; have := hge4.out; have := hs6.out; omega) (by have := hl'.out; have := hD'.out; have := hge3.out; have := hge4.out; have := hs6.out; omega)).trans B3.out
          have M8 := (e8 _ (by have := hl'.out; have := hD'.out; have := hge3.out; have := hge4.out; have := hs6.out; omega) (by have := hl'.out; have := hD'.out; have := hge3.out; have := hge4.out; have := hs6.out; omega)).trans B6.out
          have P8 := (e8 _ (by have := hl'.out; have := hD'.out; have := hge3.out; have := hge4.out; have := hs6.out; omega) (by have := hl'.out; have := hD'.out; have := hge3.out; have := hge4.out; have := hs6.out; omega)).trans Bn.out
          have O8 := Kd.R_step HO.out (fun q ho _ => e8 q ho.2.1 ho.2.2)
          clear hW8 e8
          gi_roundg k1
          case measure => have := HK.out; omega
          case rel => exact ⟨y0, y1, (wrap64 (wrap64 (wrap64 (Int.tdiv (wrap64 (a0 + x1)) y1) * y0) - x0)), (wrap64 (wrap64 (wrap64 (Int.tdiv (wrap64 (a0 + x1)) y1) * y1) - x1)), out, _, H', ⟨by have := HK.out; omega⟩, ⟨K8⟩, ⟨M8⟩, ⟨P8⟩, ⟨G3⟩, ⟨G4⟩, ⟨O8⟩, ⟨R8⟩, ⟨HB8⟩⟩
         ·have H := H'.out
          clear H'
          rw [if_neg c3] at H
          have c3b : decide (x0 < x1) = false := decide_eq_false c3
          clear c3
          simp only [Option.some.injEq, Prod.mk.injEq] at H
          obtain ⟨hr1, hr2⟩ := H
          obtain ⟨W6, hov, hK6, hk6⟩ := rec_over (P := Try.prog) R5.out hlD'.out (by decide)
          have D6 := Aside0.mk ((hk6.other _ (by have := hl'.out; have := hD'.out; have := hge3.out; have := hge4.out; have := hs6.out; omega)).trans B6.out)
          have HO6 := Aside0.mk (Kd.R_step HO.out (fun q ho _ => hk6.other q (by have := ho.1; have := hl'.out; omega)))
          have HB6 := Aside0.mk (hk6.below _ _ (by have := hl'.out; have := hD'.out; have := hge3.out; have := hge4.out; have := hs6.out; omega) HB.out)
          have hK6' := Aside0.mk hK6
          have hr1 := Aside0.mk hr1
          have hr2 := Aside0.mk hr2
          clear hk6 hK6
          have hd6 := blk_cell D6.out 0
          have hd6f := blk_frozen D6.out 0
          simp at hd6
          refine ⟨_, W5, hend, ?_⟩
          gi_wp2
          go_end0
          refine ⟨none, W6, hov, ?_⟩
          gi_wp2
          refine ⟨by simp, .inl ⟨_, _, rfl, run_takeDeferred hK6'.out, ?_⟩⟩
          have rk := recKept_put hK6'.out (.deferred none)
          refine ⟨_, by simp [results, Try.f52, go_sem]; rfl, _, by rw [← hr2.out], ?_, rk.below _ _ (by have := hl'.out; have := hD'.out; have := hge3.out; have := hge4.out; have := hs6.out; omega) HB6.out⟩
          rw [← hr1.out]
          (try rw [show out.length + 1 = (out ++ [(⟨x0, x1⟩ : S23)]).length from (by simp)])
          exact Kd.R_mono (Kd.R_step HO6.out (fun q ho _ => rk.other q (by have := ho.1; have := hD'.out; omega))) (fun _ _ => trivial)
    ·obtain ⟨W2, hW2⟩ : ∃ W2, W2 = ((W1.alloc (.cells #[.int .i64 1, .int .i64 a0] 23 (0, 0))).alloc (.cells #[.int .i64 0, .int .i64 1] 23 (0, 0))).drew := ⟨_, rfl⟩
     rw [← hW2]
     have F3 : W2.heap[W1.heap.size + 1]? = some (.cells #[.int .i64 0, .int .i64 1] 23 (0, 0)) := by rw [hW2]; exact blk_drew (by have := blk_new (W1.alloc (.cells #[.int .i64 1, .int .i64 a0] 23 (0, 0))) (.cells #[.int .i64 0, .int .i64 1] 23 (0, 0)); rwa [World.size_alloc] at this)
     have F4 : W2.heap[W1.heap.size]? = some (.cells #[.int .i64 1, .int .i64 a0] 23 (0, 0)) := by rw [hW2]; exact blk_drew (blk_alloc (blk_new W1 _) _)
     have hb2 : Below W1.heap.size W1 W2 := by rw [hW2]; exact below_drew1 (below_alloc (below_alloc (Below.refl _ _) _) _)
     obtain ⟨g3, hg3⟩ : ∃ g, g = W1.heap.size + 1 := ⟨_, rfl⟩
     obtain ⟨g4, hg4⟩ : ∃ g, g = W1.heap.size := ⟨_, rfl⟩
     rw [← hg3, ← hg4]
     rw [← hg3] at F3
     rw [← hg4] at F4
     have hN := hS1'.out
     have hne : Aside0 (g3 ≠ g4) := ⟨by omega⟩
     have hge3 : Aside0 (s6 + 4 ≤ g3) := ⟨by omega⟩
     have hge4 : Aside0 (s6 + 4 ≤ g4) := ⟨by omega⟩
     clear hg3 hg4 hN hW2 hcn hln hln1 hnn0 hnn1
     replace B3 := Aside0.mk (blk_below B3.out hb2)
     replace B6 := Aside0.mk (blk_below B6.out hb2)
     replace Bn := Aside0.mk (blk_below Bn.out hb2)
     replace HB := Aside0.mk (below_step HB.out hb2)
     replace F3 := Aside0.mk F3
     replace F4 := Aside0.mk F4
     replace hR := Aside0.mk (rec_below hRR.out hR.out hb2)
     have HO : Aside0 (Kd.R k23 23 W2 w.heap.size (fun q => s6 + 4 ≤ q ∧ q ≠ g3 ∧ q ≠ g4) (.slice none 0 0) []) := ⟨Kd.R_nil _ _ _ _ _⟩
     clear hb2 hS1' W1
     gi_wp2
     gi_loopg [5] k (fun kq v5 wr => ∃ (x0 x1 y0 y1 : Int) (out : List S23) (vo : Value), Aside0 (yard_Touching.l0 kq a0 x0 x1 y0 y1 out a1_0 a1_1 = some (r1, r2)) ∧ Aside0 (kq ≤ k) ∧ Aside0 (wr.heap[w.heap.size]? = some (.cells #[.int .i64 a1_0, .int .i64 a1_1] 23 (0, 0))) ∧ Aside0 (wr.heap[s6]? = some (.cells #[vo] 54 (0, 0))) ∧ Aside0 (wr.heap[s6 + 1]? = some (.cells #[.int .i64 a0] 3 (0, 0))) ∧ Aside0 (wr.heap[g3]? = some (.cells #[.int .i64 x0, .int .i64 x1] 23 (0, 0))) ∧ Aside0 (wr.heap[g4]? = some (.cells #[.int .i64 y0, .int .i64 y1] 23 (0, 0))) ∧ Aside0 (Kd.R k23 23 wr w.heap.size (fun q => s6 + 4 ≤ q ∧ q ≠ g3 ∧ q ≠ g4) vo out) ∧ Aside0 (RR wr .ready none) ∧ Aside0 (Below w.heap.size w wr))
     case atStart => exact ⟨0, 1, 1, a0, [], _, H', ⟨Nat.le_refl _⟩, B3, B6, Bn, F3, F4, HO, hR, HB⟩
     case round =>
      clear H' B3 B6 Bn F3 F4 hR HB HO
      obtain ⟨x0, x1, y0, y1, out, vo, HA, HK, B3, B6, Bn, F3, F4, HO, hR, HB⟩ := hrel
      cases gk with
      | zero => exact absurd HA.out (by simp [yard_Touching.l0])
      | succ k1 =>
       have H := HA.out
       clear HA
       simp only [yard_Touching.l0] at H
       obtain ⟨t1, A5, H⟩ := Option.bind_eq_some_iff.mp H
       obtain ⟨t2, A6, H⟩ := Option.bind_eq_some_iff.mp H
       have A5 := Aside0.mk A5
       have A6 := Aside0.mk A6
       have H' := Aside0.mk H
       clear H
       have hRec := (hRR.out _ _ _).1 hR.out
       have hy := run_yield (P := Try.prog) (args := #[.agg #[.int .i64 x0, .int .i64 x1]]) hRec.L rfl
       simp at hy
       have hcF3_0 := blk_cell F3.out 0
       have hcF3_1 := blk_cell F3.out 1
       simp at hcF3_0 hcF3_1
       replace hRec := Aside0.mk hRec
       gi_wp2
       have hlr := blk_lt hRec.out.L
       have hlD : D ≠ l := (by have := hl'.out; have := hD'.out; have := hge3.out; have := hge4.out; have := hs6.out; omega)
       obtain ⟨Wa, hWa⟩ : ∃ Wa, Wa = wr.alloc (.cells #[.int .i64 x0, .int .i64 x1] 23 (0, 0)) := ⟨_, rfl⟩
       have hba : Below wr.heap.size wr Wa := by rw [hWa]; exact below_alloc (Below.refl _ _) _
       have hRa := rec_below (fun _ _ _ => Iff.rfl) hRec.out hba
       obtain ⟨W3, hb3, R4, hk3⟩ := rec_begin (P := Try.prog) hRa hlD
       have Bf : W3.heap[wr.heap.size]? = some (.cells #[.int .i64 x0, .int .i64 x1] 23 (0, 0)) := by rw [hk3.other _ (by omega), hWa]; exact blk_new _ _
       have HBa := hk3.below w.heap.size w (by have := hl'.out; have := hD'.out; have := hge3.out; have := hge4.out; have := hs6.out; omega) (below_step HB.out hba)
       replace B3 := Aside0.mk ((hk3.other _ (by have := hl'.out; have := hD'.out; have := hge3.out; have := hge4.out; have := hs6.out; omega)).trans (blk_below B3.out hba))
       replace B6 := Aside0.mk ((hk3.other _ (by have := hl'.out; have := hD'.out; have := hge3.out; have := hge4.out; have := hs6.out; omega)).trans (blk_below B6.out hba))
       replace Bn := Aside0.mk ((hk3.other _ (by have := hl'.out; have := hD'.out; have := hge3.out; have := hge4.out; have := hs6.out; omega)).trans (blk_below Bn.out hba))
       replace F3 := Aside0.mk ((hk3.other _ (by have := hl'.out; have := hD'.out; have := hge3.out; have := hge4.out; have := hs6.out; omega)).trans (blk_below F3.out hba))
       replace F4 := Aside0.mk ((hk3.other _ (by have := hl'.out; have := hD'.out; have := hge3.out; have := hge4.out; have := hs6.out; omega)).trans (blk_below F4.out hba))
       replace Bf := Aside0.mk Bf
       replace HO := Aside0.mk (Kd.R_step (Kd.R_below HO.out hba) (fun q ho _ => hk3.other q (by have := ho.1; have := hl'.out; omega)))
       replace HB := Aside0.mk HBa
       replace R4 := Aside0.mk R4
       have hlr' := Aside0.mk hlr
       have hlD' := Aside0.mk hlD
       have hs3 : Aside0 (W3.heap.size = wr.heap.size + 1) := ⟨by rw [hk3.size, hWa]; simp⟩
       refine roundIn_of_wpIn hfn ?_
       gi_wp2
       rw [← hWa]
       refine ⟨W3, hb3, ?_⟩
       clear hy hb3 hk3 HBa hRa hba hWa hRec hcF3_0 hcF3_1 hR hlr hlD
       cases t1 with
       | true =>
        have e2 : t2 = true := by have := A6.out; simpa using this.symm
        subst e2
        have H := H'.out
        clear H' A6
        rw [if_pos rfl] at H
        by_cases c9 : out.length < 1000000
        case neg =>
         rw [if_neg c9] at H; simp at H
        rw [if_pos c9] at H
        have H' := Aside0.mk H
        clear H
        have HL := Aside0.mk c9
        obtain ⟨Ao, co, eo⟩ := Kd.R_slice HO.out
        subst eo
        have hcf_0 := blk_cell Bf.out 0; have hcf_1 := blk_cell Bf.out 1; have hcb_0 := blk_cell B3.out 0; have hcb_1 := blk_cell B3.out 1; have hco := blk_cell B6.out 0; have hfo := blk_frozen B6.out 0; have hlo := blk_lt B6.out; simp at hcf_0 hcf_1 hcb_0 hcb_1 hco
        gi_wp2_with (first | (refine ⟨trivial, ?_⟩; gi_at_call 68; (with_reducible refine (CallsIn.inRound l (callsIn_wide.2 (yard_beside.calls a1_0 a1_1 x0 x1 true _ A5.out))).mono ?_); rintro e wc ⟨rfl, hbc⟩; have nB3 := Aside0.mk (blk_below B3.out hbc); have nB6 := Aside0.mk (blk_below B6.out hbc); have nBn := Aside0.mk (blk_below Bn.out hbc); have nF3 := Aside0.mk (blk_below F3.out hbc); have nF4 := Aside0.mk (blk_below F4.out hbc); have nBf := Aside0.mk (blk_below Bf.out hbc); have nHO := Aside0.mk (Kd.R_below HO.out hbc); have nHB := Aside0.mk (below_step HB.out hbc); have nR4 := Aside0.mk (rec_below (fun _ _ _ => Iff.rfl) R4.out hbc); clear hcf_0 hcf_1 hcb_0 hcb_1 hco hfo hlo B3 B6 Bn F3 F4 Bf HO HB R4 hbc; have B3 := nB3; have B6 := nB6; have Bn := nBn; have F3 := nF3; have F4 := nF4; have Bf := nBf; have HO := nHO; have HB := nHB; have R4 := nR4; clear nB3 nB6 nBn nF3 nF4 nBf nHO nHB nR4; have hcf_0 := blk_cell Bf.out 0; have hcf_1 := blk_cell Bf.out 1; have hcb_0 := blk_cell B3.out 0; have hcb_1 := blk_cell B3.out 1; have hco := blk_cell B6.out 0; have hfo := blk_frozen B6.out 0; have hlo := blk_lt B6.out; simp at hcf_0 hcf_1 hcb_0 hcb_1 hco) | (refine ⟨show Fence.wide.fn 68 from trivial, ?_⟩) | (gi_at_builtin; refine R_appendIn k23 (w0 := w) w.heap.size rfl (.tmp 33) (.tmp 35) 54 23 (.agg #[.int .i64 0, .int .i64 0]) 16 rfl Try.underlying54 info23 rfl (by decide) (by omega) (.slice Ao out.length co) out ⟨x0, x1⟩ [.int .i64 x0, .int .i64 x1] (fun q => s6 + 4 ≤ q ∧ q ≠ g3 ∧ q ≠ g4) (fun _ => False) rfl rfl ?aP (fun _ hk => hk.elim) ?aF ?aO ?aB ?aS ?aL ?_; (case aP => exact k23_mkM _ _ _ _); (case aF => exact (fun q hq => ⟨by have := hge3.out; have := blk_lt F3.out; omega, by have := blk_lt F3.out; omega, by have := blk_lt F4.out; omega⟩)); (case aO => exact HO.out); (case aB => exact HB.out); (case aS => exact HB.out.size); (case aL => have := HL.out; omega); intro v5 w6 ho hb hg hat; have ne : ∀ q, (q < s6 + 4 ∨ q = g3 ∨ q = g4) → some q ≠ (Value.slice Ao out.length co).ownBlock := (fun q hq e => by have := HO.out.1 q e.symm; omega); have nB3 := Aside0.mk (blk_grown B3.out hg (ne _ (.inl (by have := hs6.out; omega)))); have nB6 := Aside0.mk (blk_grown B6.out hg (ne _ (.inl (by omega)))); have nBn := Aside0.mk (blk_grown Bn.out hg (ne _ (.inl (by omega)))); have nF3 := Aside0.mk (blk_grown F3.out hg (ne _ (.inr (.inl rfl)))); have nF4 := Aside0.mk (blk_grown F4.out hg (ne _ (.inr (.inr rfl)))); have nHO := Aside0.mk ho; have nHB := Aside0.mk hb; have nR4 := Aside0.mk (rec_same R4.out (hg.block l (blk_lt R4.out.L) (ne _ (.inl (by have := hl'.out; omega)))) (hg.block D (blk_lt R4.out.K) (ne _ (.inl (by have := hD'.out; omega))))); clear hcf_0 hcf_1 hcb_0 hcb_1 hco hfo hlo Bf B3 B6 Bn F3 F4 HO HB R4 hb hg hat ho ne; have B3 := nB3; have B6 := nB6; have Bn := nBn; have F3 := nF3; have F4 := nF4; have HO := nHO; have HB := nHB; have R4 := nR4; clear nB3 nB6 nBn nF3 nF4 nHO nHB nR4; obtain ⟨An, cn, en⟩ := Kd.R_slice HO.out; subst en; have hco := blk_cell B6.out 0; have hfo := blk_frozen B6.out 0; simp at hco))
        rw [show out.length + 1 = (out ++ [(⟨x0, x1⟩ : S23)]).length from (by simp)]
        obtain ⟨W4, hW4⟩ : ∃ W4, W4 = w6.setCell ⟨s6, 0, none⟩ (.slice An (out ++ [(⟨x0, x1⟩ : S23)]).length cn) := ⟨_, rfl⟩
        rw [← hW4]
        have e4 : ∀ q, q ≠ s6 → W4.heap[q]? = w6.heap[q]? := fun q h1 => by rw [hW4, Below.heap_setCell _ _ _ q h1]
        replace R4 := Aside0.mk (rec_same R4.out (e4 l (by have := hl'.out; have := hD'.out; have := hge3.out; have := hge4.out; have := hs6.out; omega)) (e4 D (by have := hl'.out; have := hD'.out; have := hge3.out; have := hge4.out; have := hs6.out; omega)))
        replace B3 := Aside0.mk ((e4 _ (by have := hl'.out; have := hD'.out; have := hge3.out; have := hge4.out; have := hs6.out; omega)).trans B3.out)
        replace Bn := Aside0.mk ((e4 _ (by have := hl'.out; have := hD'.out; have := hge3.out; have := hge4.out; have := hs6.out; omega)).trans Bn.out)
        replace F3 := Aside0.mk ((e4 _ (by have := hl'.out; have := hD'.out; have := hge3.out; have := hge4.out; have := hs6.out; omega)).trans F3.out)
        replace F4 := Aside0.mk ((e4 _ (by have := hl'.out; have := hD'.out; have := hge3.out; have := hge4.out; have := hs6.out; omega)).trans F4.out)
        replace HO := Aside0.mk (Kd.R_step HO.out (fun q ho _ => e4 q (by have := ho.1; omega)))
        have C6 : W4.heap[s6]? = some (.cells #[.slice An (out ++ [(⟨x0, x1⟩ : S23)]).length cn] 54 (0, 0)) := by rw [hW4]; exact blk_put B6.out 0 _ rfl
        replace HB : Aside0 (Below w.heap.size w W4) := ⟨by rw [hW4]; exact below_set HB.out (by have := hl'.out; have := hD'.out; have := hge3.out; have := hge4.out; have := hs6.out; omega)⟩
        replace B6 := Aside0.mk C6
        clear hW4 e4 C6 hco hfo
        obtain ⟨W5, hend, R5, hk5⟩ := rec_end (P := Try.prog) none R4.out hlD'.out
        replace B3 := Aside0.mk ((hk5.other _ (by have := hl'.out; have := hD'.out; have := hge3.out; have := hge4.out; have := hs6.out; omega)).trans B3.out)
        replace B6 := Aside0.mk ((hk5.other _ (by have := hl'.out; have := hD'.out; have := hge3.out; have := hge4.out; have := hs6.out; omega)).trans B6.out)
        replace Bn := Aside0.mk ((hk5.other _ (by have := hl'.out; have := hD'.out; have := hge3.out; have := hge4.out; have := hs6.out; omega)).trans Bn.out)
        replace F3 := Aside0.mk ((hk5.other _ (by have := hl'.out; have := hD'.out; have := hge3.out; have := hge4.out; have := hs6.out; omega)).trans F3.out)
        replace F4 := Aside0.mk ((hk5.other _ (by have := hl'.out; have := hD'.out; have := hge3.out; have := hge4.out; have := hs6.out; omega)).trans F4.out)
        replace HO := Aside0.mk (Kd.R_step HO.out (fun q ho _ => hk5.other q (by have := ho.1; have := hl'.out; omega)))
        replace HB := Aside0.mk (hk5.below _ _ (by have := hl'.out; have := hD'.out; have := hge3.out; have := hge4.out; have := hs6.out; omega) HB.out)
        replace R5 := Aside0.mk R5
        clear R4 hk5
        have hc3_0 := blk_cell F3.out 0
        have hc3_1 := blk_cell F3.out 1
        have hf3_0 := blk_frozen F3.out 0
        have hf3_1 := blk_frozen F3.out 1
        have hcg_0 := blk_cell F4.out 0
        have hcg_1 := blk_cell F4.out 1
        have hfg_0 := blk_frozen F4.out 0
        have hfg_1 := blk_frozen F4.out 1
        have hcn := blk_cell Bn.out 0
        simp at hc3_0 hc3_1 hcg_0 hcg_1 hcn
        by_cases c3 : x0 < x1
        ·have H := H'.out
         clear H'
         rw [if_pos c3] at H
         have c3b : decide (x0 < x1) = true := decide_eq_true c3
         clear c3
         by_cases c4 : y1 = 0
         ·rw [if_pos c4] at H; simp at H
         rw [if_neg c4] at H
         have c4b : (y1 == 0) = false := beq_eq_false_iff_ne.mpr c4
         have H' := Aside0.mk H
         clear H
         have hnn := hne.out
         have hnn' := Ne.symm hne.out
         refine ⟨_, W5, hend, ?_⟩
         gi_wp2
         gi_region
         gi_wp2
         obtain ⟨W8, hW8⟩ : ∃ W8, W8 = (((((W5.setCell ⟨g3, 0, none⟩ (.int .i64 y0)).setCell ⟨g3, 1, none⟩ (.int .i64 y1)).setCell ⟨g4, 0, none⟩ (.int .i64 (wrap64 (wrap64 (wrap64 (Int.tdiv (wrap64 (a0 + x1)) y1) * y0) - x0)))).setCell ⟨g4, 1, none⟩ (.int .i64 (wrap64 (wrap64 (wrap64 (Int.tdiv (wrap64 (a0 + x1)) y1) * y1) - x1)))).drew) := ⟨_, rfl⟩
         rw [← hW8]
         have e8 : ∀ q, q ≠ g3 → q ≠ g4 → W8.heap[q]? = W5.heap[q]? := fun q h3 h4 => by
          rw [hW8, heap_drew, Below.heap_setCell _ _ _ q h4, Below.heap_setCell _ _ _ q h4, Below.heap_setCell _ _ _ q h3, Below.heap_setCell _ _ _ q h3]
         have G3 : W8.heap[g3]? = some (.cells #[.int .i64 y0, .int .i64 y1] 23 (0, 0)) := by
          rw [hW8, heap_drew, Below.heap_setCell _ _ _ g3 hne.out, Below.heap_setCell _ _ _ g3 hne.out]
          exact blk_put (cs := #[.int .i64 y0, .int .i64 x1]) (blk_put (cs := #[.int .i64 x0, .int .i64 x1]) F3.out 0 _ rfl) 1 _ rfl
         have G4 : W8.heap[g4]? = some (.cells #[.int .i64 (wrap64 (wrap64 (wrap64 (Int.tdiv (wrap64 (a0 + x1)) y1) * y0) - x0)), .int .i64 (wrap64 (wrap64 (wrap64 (Int.tdiv (wrap64 (a0 + x1)) y1) * y1) - x1))] 23 (0, 0)) := by
          rw [hW8, heap_drew]
          exact blk_put (cs := #[.int .i64 (wrap64 (wrap64 (wrap64 (Int.tdiv (wrap64 (a0 + x1)) y1) * y0) - x0)), .int .i64 y1]) (blk_put (cs := #[.int .i64 y0, .int .i64 y1]) (blk_far (blk_far F4.out (Ne.symm hne.out) _) (Ne.symm hne.out) _) 0 _ rfl) 1 _ rfl
         have HB8 : Below w.heap.size w W8 := by
          rw [hW8]
          exact below_drew1 (below_set (below_set (below_set (below_set HB.out (by have := hl'.out; have := hD'.out; have := hge3.out; have := hge4.out; have := hs6.out; omega)) (by have := hl'.out; have := hD'.out; have := hge3.out; have := hge4.out; have := hs6.out; omega)) (by have := hl'.out; have := hD'.out; have := hge3.out; have := hge4.out; have := hs6.out; omega)) (by have := hl'.out; have := hD'.out; have := hge3.out; have := hge4.out; have := hs6.out; omega))
         have R8 := (hRR.out _ _ _).2 (rec_far R5.out e8 (by have := hl'.out; have := hD'.out; have := hge3.out; have := hge4.out; have := hs6.out; omega) (by have := hl'.out; have := hD'.out; have := hge3.out; have := hge4.out; have := hs6.out; omega) (by have := hl'.out; have := hD'.out; have := hge3.out; have := hge4.out; have := hs6.out; omega) (by have := hl'.out; have := hD'.out; have := hge3.out; have := hge4.out; have := hs6.out; omega))
         have K8 := (e8 _ (by have := hl'.out; have := hD'.out; have := hge3.out; have := hge4.out; have := hs6.out; omega) (by have := hl'.out; have := hD'.out; have := hge3.out; have := hge4.out; have := hs6.out; omega)).trans B3.out
         have M8 := (e8 _ (by have := hl'.out; have := hD'.out; have := hge3.out; have := hge4.out; have := hs6.out; omega) (by have := hl'.out; have := hD'.out; have := hge3.out; have := hge4.out; have := hs6.out; omega)).trans B6.out
         have P8 := (e8 _ (by have := hl'.out; have := hD'.out; have := hge3.out; have := hge4.out; have := hs6.out; omega) (by have := hl'.out; have := hD'.out; have := hge3.out; have := hge4.out; have := hs6.out; omega)).trans Bn.out
         have O8 := Kd.R_step HO.out (fun q ho _ => e8 q ho.2.1 ho.2.2)
         clear hW8 e8
         gi_roundg k1
         case measure => have := HK.out; omega
         case rel => exact ⟨y0, y1, (wrap64 (wrap64 (wrap64 (Int.tdiv (wrap64 (a0 + x1)) y1) * y0) - x0)), (wrap64 (wrap64 (wrap64 (Int.tdiv (wrap64 (a0 + x1)) y1) * y1) - x1)), (out ++ [⟨x0, x1⟩]), _, H', ⟨by have := HK.out; omega⟩, ⟨K8⟩, ⟨M8⟩, ⟨P8⟩, ⟨G3⟩, ⟨G4⟩, ⟨O8⟩, ⟨R8⟩, ⟨HB8⟩⟩
        ·have H := H'.out
         clear H'
         rw [if_neg c3] at H
         have c3b : decide (x0 < x1) = false := decide_eq_false c3
         clear c3
         simp only [Option.some.injEq, Prod.mk.injEq] at H
         obtain ⟨hr1, hr2⟩ := H
         obtain ⟨W6, hov, hK6, hk6⟩ := rec_over (P := Try.prog) R5.out hlD'.out (by decide)
         have D6 := Aside0.mk ((hk6.other _ (by have := hl'.out; have := hD'.out; have := hge3.out; have := hge4.out; have := hs6.out; omega)).trans B6.out)
         have HO6 := Aside0.mk (Kd.R_step HO.out (fun q ho _ => hk6.other q (by have := ho.1; have := hl'.out; omega)))
         have HB6 := Aside0.mk (hk6.below _ _ (by have := hl'.out; have := hD'.out; have := hge3.out; have := hge4.out; have := hs6.out; omega) HB.out)
         have hK6' := Aside0.mk hK6
         have hr1 := Aside0.mk hr1
         have hr2 := Aside0.mk hr2
         clear hk6 hK6
         have hd6 := blk_cell D6.out 0
         have hd6f := blk_frozen D6.out 0
         simp at hd6
         refine ⟨_, W5, hend, ?_⟩
         gi_wp2
         go_end0
         refine ⟨none, W6, hov, ?_⟩
         gi_wp2
         refine ⟨by simp, .inl ⟨_, _, rfl, run_takeDeferred hK6'.out, ?_⟩⟩
         have rk := recKept_put hK6'.out (.deferred none)
         refine ⟨_, by simp [results, Try.f52, go_sem]; rfl, _, by rw [← hr2.out], ?_, rk.below _ _ (by have := hl'.out; have := hD'.out; have := hge3.out; have := hge4.out; have := hs6.out; omega) HB6.out⟩
         rw [← hr1.out]
         (try rw [show out.length + 1 = (out ++ [(⟨x0, x1⟩ : S23)]).length from (by simp)])
         exact Kd.R_mono (Kd.R_step HO6.out (fun q ho _ => rk.other q (by have := ho.1; have := hD'.out; omega))) (fun _ _ => trivial)
       | false =>
        replace A6 := Aside0.mk (show yard_beside.f x0 x1 a1_0 a1_1 = some t2 by have := A6.out; rwa [if_neg (by decide)] at this)
        cases t2 with
        | true =>
         have H := H'.out
         clear H'
         rw [if_pos rfl] at H
         by_cases c9 : out.length < 1000000
         case neg =>
          rw [if_neg c9] at H; simp at H
         rw [if_pos c9] at H
         have H' := Aside0.mk H
         clear H
         have HL := Aside0.mk c9
         obtain ⟨Ao, co, eo⟩ := Kd.R_slice HO.out
         subst eo
         have hcf_0 := blk_cell Bf.out 0; have hcf_1 := blk_cell Bf.out 1; have hcb_0 := blk_cell B3.out 0; have hcb_1 := blk_cell B3.out 1; have hco := blk_cell B6.out 0; have hfo := blk_frozen B6.out 0; have hlo := blk_lt B6.out; simp at hcf_0 hcf_1 hcb_0 hcb_1 hco
         gi_wp2_with (first | (refine ⟨trivial, ?_⟩; gi_at_call 68; (with_reducible refine (CallsIn.inRound l (callsIn_wide.2 (yard_beside.calls a1_0 a1_1 x0 x1 false _ A5.out))).mono ?_); rintro e wc ⟨rfl, hbc⟩; have nB3 := Aside0.mk (blk_below B3.out hbc); have nB6 := Aside0.mk (blk_below B6.out hbc); have nBn := Aside0.mk (blk_below Bn.out hbc); have nF3 := Aside0.mk (blk_below F3.out hbc); have nF4 := Aside0.mk (blk_below F4.out hbc); have nBf := Aside0.mk (blk_below Bf.out hbc); have nHO := Aside0.mk (Kd.R_below HO.out hbc); have nHB := Aside0.mk (below_step HB.out hbc); have nR4 := Aside0.mk (rec_below (fun _ _ _ => Iff.rfl) R4.out hbc); clear hcf_0 hcf_1 hcb_0 hcb_1 hco hfo hlo B3 B6 Bn F3 F4 Bf HO HB R4 hbc; have B3 := nB3; have B6 := nB6; have Bn := nBn; have F3 := nF3; have F4 := nF4; have Bf := nBf; have HO := nHO; have HB := nHB; have R4 := nR4; clear nB3 nB6 nBn nF3 nF4 nBf nHO nHB nR4; have hcf_0 := blk_cell Bf.out 0; have hcf_1 := blk_cell Bf.out 1; have hcb_0 := blk_cell B3.out 0; have hcb_1 := blk_cell B3.out 1; have hco := blk_cell B6.out 0; have hfo := blk_frozen B6.out 0; have hlo := blk_lt B6.out; simp at hcf_0 hcf_1 hcb_0 hcb_1 hco) | (refine ⟨trivial, ?_⟩; gi_at_call 68; (with_reducible refine (CallsIn.inRound l (callsIn_wide.2 (yard_beside.calls x0 x1 a1_0 a1_1 true _ A6.out))).mono ?_); rintro e wc ⟨rfl, hbc⟩; have nB3 := Aside0.mk (blk_below B3.out hbc); have nB6 := Aside0.mk (blk_below B6.out hbc); have nBn := Aside0.mk (blk_below Bn.out hbc); have nF3 := Aside0.mk (blk_below F3.out hbc); have nF4 := Aside0.mk (blk_below F4.out hbc); have nBf := Aside0.mk (blk_below Bf.out hbc); have nHO := Aside0.mk (Kd.R_below HO.out hbc); have nHB := Aside0.mk (below_step HB.out hbc); have nR4 := Aside0.mk (rec_below (fun _ _ _ => Iff.rfl) R4.out hbc); clear hcf_0 hcf_1 hcb_0 hcb_1 hco hfo hlo B3 B6 Bn F3 F4 Bf HO HB R4 hbc; have B3 := nB3; have B6 := nB6; have Bn := nBn; have F3 := nF3; have F4 := nF4; have Bf := nBf; have HO := nHO; have HB := nHB; have R4 := nR4; clear nB3 nB6 nBn nF3 nF4 nBf nHO nHB nR4; have hcf_0 := blk_cell Bf.out 0; have hcf_1 := blk_cell Bf.out 1; have hcb_0 := blk_cell B3.out 0; have hcb_1 := blk_cell B3.out 1; have hco := blk_cell B6.out 0; have hfo := blk_frozen B6.out 0; have hlo := blk_lt B6.out; simp at hcf_0 hcf_1 hcb_0 hcb_1 hco) | (refine ⟨show Fence.wide.fn 68 from trivial, ?_⟩) | (gi_at_builtin; refine R_appendIn k23 (w0 := w) w.heap.size rfl (.tmp 33) (.tmp 35) 54 23 (.agg #[.int .i64 0, .int .i64 0]) 16 rfl Try.underlying54 info23 rfl (by decide) (by omega) (.slice Ao out.length co) out ⟨x0, x1⟩ [.int .i64 x0, .int .i64 x1] (fun q => s6 + 4 ≤ q ∧ q ≠ g3 ∧ q ≠ g4) (fun _ => False) rfl rfl ?aP (fun _ hk => hk.elim) ?aF ?aO ?aB ?aS ?aL ?_; (case aP => exact k23_mkM _ _ _ _); (case aF => exact (fun q hq => ⟨by have := hge3.out; have := blk_lt F3.out; omega, by have := blk_lt F3.out; omega, by have := blk_lt F4.out; omega⟩)); (case aO => exact HO.out); (case aB => exact HB.out); (case aS => exact HB.out.size); (case aL => have := HL.out; omega); intro v5 w6 ho hb hg hat; have ne : ∀ q, (q < s6 + 4 ∨ q = g3 ∨ q = g4) → some q ≠ (Value.slice Ao out.length co).ownBlock := (fun q hq e => by have := HO.out.1 q e.symm; omega); have nB3 := Aside0.mk (blk_grown B3.out hg (ne _ (.inl (by have := hs6.out; omega)))); have nB6 := Aside0.mk (blk_grown B6.out hg (ne _ (.inl (by omega)))); have nBn := Aside0.mk (blk_grown Bn.out hg (ne _ (.inl (by omega)))); have nF3 := Aside0.mk (blk_grown F3.out hg (ne _ (.inr (.inl rfl)))); have nF4 := Aside0.mk (blk_grown F4.out hg (ne _ (.inr (.inr rfl)))); have nHO := Aside0.mk ho; have nHB := Aside0.mk hb; have nR4 := Aside0.mk (rec_same R4.out (hg.block l (blk_lt R4.out.L) (ne _ (.inl (by have := hl'.out; omega)))) (hg.block D (blk_lt R4.out.K) (ne _ (.inl (by have := hD'.out; omega))))); clear hcf_0 hcf_1 hcb_0 hcb_1 hco hfo hlo Bf B3 B6 Bn F3 F4 HO HB R4 hb hg hat ho ne; have B3 := nB3; have B6 := nB6; have Bn := nBn; have F3 := nF3; have F4 := nF4; have HO := nHO; have HB := nHB; have R4 := nR4; clear nB3 nB6 nBn nF3 nF4 nHO nHB nR4; obtain ⟨An, cn, en⟩ := Kd.R_slice HO.out; subst en; have hco := blk_cell B6.out 0; have hfo := blk_frozen B6.out 0; simp at hco))
         rw [show out.length + 1 = (out ++ [(⟨x0, x1⟩ : S23)]).length from (by simp)]
         obtain ⟨W4, hW4⟩ : ∃ W4, W4 = w6.setCell ⟨s6, 0, none⟩ (.slice An (out ++ [(⟨x0, x1⟩ : S23)]).length cn) := ⟨_, rfl⟩
         rw [← hW4]
         have e4 : ∀ q, q ≠ s6 → W4.heap[q]? = w6.heap[q]? := fun q h1 => by rw [hW4, Below.heap_setCell _ _ _ q h1]
         replace R4 := Aside0.mk (rec_same R4.out (e4 l (by have := hl'.out; have := hD'.out; have := hge3.out; have := hge4.out; have := hs6.out; omega)) (e4 D (by have := hl'.out; have := hD'.out; have := hge3.out; have := hge4.out; have := hs6.out; omega)))
         replace B3 := Aside0.mk ((e4 _ (by have := hl'.out; have := hD'.out; have := hge3.out; have := hge4.out; have := hs6.out; omega)).trans B3.out)
         replace Bn := Aside0.mk ((e4 _ (by have := hl'.out; have := hD'.out; have := hge3.out; have := hge4.out; have := hs6.out; omega)).trans Bn.out)
         replace F3 := Aside0.mk ((e4 _ (by have := hl'.out; have := hD'.out; have := hge3.out; have := hge4.out; have := hs6.out; omega)).trans F3.out)
         replace F4 := Aside0.mk ((e4 _ (by have := hl'.out; have := hD'.out; have := hge3.out; have := hge4.out; have := hs6.out; omega)).trans F4.out)
         replace HO := Aside0.mk (Kd.R_step HO.out (fun q ho _ => e4 q (by have := ho.1; omega)))
         have C6 : W4.heap[s6]? = some (.cells #[.slice An (out ++ [(⟨x0, x1⟩ : S23)]).length cn] 54 (0, 0)) := by rw [hW4]; exact blk_put B6.out 0 _ rfl
         replace HB : Aside0 (Below w.heap.size w W4) := ⟨by rw [hW4]; exact below_set HB.out (by have := hl'.out; have := hD'.out; have := hge3.out; have := hge4.out; have := hs6.out; omega)⟩
         replace B6 := Aside0.mk C6
         clear hW4 e4 C6 hco hfo
         obtain ⟨W5, hend, R5, hk5⟩ := rec_end (P := Try.prog) none R4.out hlD'.out
         replace B3 := Aside0.mk ((hk5.other _ (by have := hl'.out; have := hD'.out; have := hge3.out; have := hge4.out; have := hs6.out; omega)).trans B3.out)
         replace B6 := Aside0.mk ((hk5.other _ (by have := hl'.out; have := hD'.out; have := hge3.out; have := hge4.out; have := hs6.out; omega)).trans B6.out)
         replace Bn := Aside0.mk ((hk5.other _ (by have := hl'.out; have := hD'.out; have := hge3.out; have := hge4.out; have := hs6.out; omega)).trans Bn.out)
         replace F3 := Aside0.mk ((hk5.other _ (by have := hl'.out; have := hD'.out; have := hge3.out; have := hge4.out; have := hs6.out; omega)).trans F3.out)
         replace F4 := Aside0.mk ((hk5.other _ (by have := hl'.out; have := hD'.out; have := hge3.out; have := hge4.out; have := hs6.out; omega)).trans F4.out)
         replace HO := Aside0.mk (Kd.R_step HO.out (fun q ho _ => hk5.other q (by have := ho.1; have := hl'.out; omega)))
         replace HB := Aside0.mk (hk5.below _ _ (by have := hl'.out; have := hD'.out; have := hge3.out; have := hge4.out; have := hs6.out; omega) HB.out)
         replace R5 := Aside0.mk R5
         clear R4 hk5
         have hc3_0 := blk_cell F3.out 0
         have hc3_1 := blk_cell F3.out 1
         have hf3_0 := blk_frozen F3.out 0
         have hf3_1 := blk_frozen F3.out 1
         have hcg_0 := blk_cell F4.out 0
         have hcg_1 := blk_cell F4.out 1
         have hfg_0 := blk_frozen F4.out 0
         have hfg_1 := blk_frozen F4.out 1
         have hcn := blk_cell Bn.out 0
         simp at hc3_0 hc3_1 hcg_0 hcg_1 hcn
         by_cases c3 : x0 < x1
         ·have H := H'.out
          clear H'
          rw [if_pos c3] at H
          have c3b : decide (x0 < x1) = true := decide_eq_true c3
          clear c3
          by_cases c4 : y1 = 0
          ·rw [if_pos c4] at H; simp at H
          rw [if_neg c4] at H
          have c4b : (y1 == 0) = false := beq_eq_false_iff_ne.mpr c4
          have H' := Aside0.mk H
          clear H
          have hnn := hne.out
          have hnn' := Ne.symm hne.out
          refine ⟨_, W5, hend, ?_⟩
          gi_wp2
          gi_region
          gi_wp2
          obtain ⟨W8, hW8⟩ : ∃ W8, W8 = (((((W5.setCell ⟨g3, 0, none⟩ (.int .i64 y0)).setCell ⟨g3, 1, none⟩ (.int .i64 y1)).setCell ⟨g4, 0, none⟩ (.int .i64 (wrap64 (wrap64 (wrap64 (Int.tdiv (wrap64 (a0 + x1)) y1) * y0) - x0)))).setCell ⟨g4, 1, none⟩ (.int .i64 (wrap64 (wrap64 (wrap64 (Int.tdiv (wrap64 (a0 + x1)) y1) * y1) - x1)))).drew) := ⟨_, rfl⟩
          rw [← hW8]
          have e8 : ∀ q, q ≠ g3 → q ≠ g4 → W8.heap[q]? = W5.heap[q]? := fun q h3 h4 => by
           rw [hW8, heap_drew, Below.heap_setCell _ _ _ q h4, Below.heap_setCell _ _ _ q h4, Below.heap_setCell _ _ _ q h3, Below.heap_setCell _ _ _ q h3]
          have G3 : W8.heap[g3]? = some (.cells #[.int .i64 y0, .int .i64 y1] 23 (0, 0)) := by
           rw [hW8, heap_drew, Below.heap_setCell _ _ _ g3 hne.out, Below.heap_setCell _ _ _ g3 hne.out]
           exact blk_put (cs := #[.int .i64 y0, .int .i64 x1]) (blk_put (cs := #[.int .i64 x0, .int .i64 x1]) F3.out 0 _ rfl) 1 _ rfl
          have G4 : W8.heap[g4]? = some (.cells #[.int .i64 (wrap64 (wrap64 (wrap64 (Int.tdiv (wrap64 (a0 + x1)) y1) * y0) - x0)), .int .i64 (wrap64 (wrap64 (wrap64 (Int.tdiv (wrap64 (a0 + x1)) y1) * y1) - x1))] 23 (0, 0)) := by
           rw [hW8, heap_drew]
           exact blk_put (cs := #[.int .i64 (wrap64 (wrap64 (wrap64 (Int.tdiv (wrap64 (a0 + x1)) y1) * y0) - x0)), .int .i64 y1]) (blk_put (cs := #[.int .i64 y0, .int .i64 y1]) (blk_far (blk_far F4.out (Ne.symm hne.out) _) (Ne.symm hne.out) _) 0 _ rfl) 1 _ rfl
          have HB8 : Below w.heap.size w W8 := by
           rw [hW8]
           exact below_drew1 (below_set (below_set (below_set (below_set HB.out (by have := hl'.out; have := hD'.out; have := hge3.out; have := hge4.out; have := hs6.out; omega)) (by have := hl'.out; have := hD'.out; have := hge3.out; have := hge4.out; have := hs6.out; omega)) (by have := hl'.out; have := hD'.out; have := hge3.out; have := hge4.out; have := hs6.out; omega)) (by have := hl'.out; have := hD'.out; have := hge3.out; have := hge4.out; have := hs6.out; omega))
          have R8 := (hRR.out _ _ _).2 (rec_far R5.out e8 (by have := hl'.out; have := hD'.out; have := hge3.out; have := hge4.out; have := hs6.out; omega) (by have := hl'.out; have := hD'.out; have := hge3.out; have := hge4.out; have := hs6.out; omega) (by have := hl'.out; have := hD'.out; have := hge3.out; have := hge4.out; have := hs6.out; omega) (by have := hl'.out; have := hD'.out; have := hge3.out; have := hge4.out; have := hs6.out; omega))
          have K8 := (e8 _ (by have := hl'.out; have := hD'.out; have := hge3.out; have := hge4.out; have := hs6.out; omega) (by have := hl'.out; have := hD'.out; have := hge3.out; have := hge4.out; have := hs6.out; omega)).trans B3.out
          have M8 := (e8 _ (by have := hl'.out; have := hD'.out; have := hge3.out; have := hge4.out; have := hs6.out; omega) (by have := hl'.out; have := hD'.out; have := hge3.out; have := hge4.out; have := hs6.out; omega)).trans B6.out
          have P8 := (e8 _ (by have := hl'.out; have := hD'.out; have := hge3.out; have := hge4.out; have := hs6.out; omega) (by have := hl'.out; have := hD'.out; have := hge3.out; have := hge4.out; have := hs6.out; omega)).trans Bn.out
          have O8 := Kd.R_step HO.out (fun q ho _ => e8 q ho.2.1 ho.2.2)
          clear hW8 e8
          gi_roundg k1
          case measure => have := HK.out; omega
          case rel => exact ⟨y0, y1, (wrap64 (wrap64 (wrap64 (Int.tdiv (wrap64 (a0 + x1)) y1) * y0) - x0)), (wrap64 (wrap64 (wrap64 (Int.tdiv (wrap64 (a0 + x1)) y1) * y1) - x1)), (out ++ [⟨x0, x1⟩]), _, H', ⟨by have := HK.out; omega⟩, ⟨K8⟩, ⟨M8⟩, ⟨P8⟩, ⟨G3⟩, ⟨G4⟩, ⟨O8⟩, ⟨R8⟩, ⟨HB8⟩⟩
         ·have H := H'.out
          clear H'
          rw [if_neg c3] at H
          have c3b : decide (x0 < x1) = false := decide_eq_false c3
          clear c3
          simp only [Option.some.injEq, Prod.mk.injEq] at H
          obtain ⟨hr1, hr2⟩ := H
          obtain ⟨W6, hov, hK6, hk6⟩ := rec_over (P := Try.prog) R5.out hlD'.out (by decide)
          have D6 := Aside0.mk ((hk6.other _ (by have := hl'.out; have := hD'.out; have := hge3.out; have := hge4.out; have := hs6.out; omega)).trans B6.out)
          have HO6 := Aside0.mk (Kd.R_step HO.out (fun q ho _ => hk6.other q (by have := ho.1; have := hl'.out; omega)))
          have HB6 := Aside0.mk (hk6.below _ _ (by have := hl'.out; have := hD'.out; have := hge3.out; have := hge4.out; have := hs6.out; omega) HB.out)
          have hK6' := Aside0.mk hK6
          have hr1 := Aside0.mk hr1
          have hr2 := Aside0.mk hr2
          clear hk6 hK6
          have hd6 := blk_cell D6.out 0
          have hd6f := blk_frozen D6.out 0
          simp at hd6
          refine ⟨_, W5, hend, ?_⟩
          gi_wp2
          go_end0
          refine ⟨none, W6, hov, ?_⟩
          gi_wp2
          refine ⟨by simp, .inl ⟨_, _, rfl, run_takeDeferred hK6'.out, ?_⟩⟩
          have rk := recKept_put hK6'.out (.deferred none)
          refine ⟨_, by simp [results, Try.f52, go_sem]; rfl, _, by rw [← hr2.out], ?_, rk.below _ _ (by have := hl'.out; have := hD'.out; have := hge3.out; have := hge4.out; have := hs6.out; omega) HB6.out⟩
          rw [← hr1.out]
          (try rw [show out.length + 1 = (out ++ [(⟨x0, x1⟩ : S23)]).length from (by simp)])
          exact Kd.R_mono (Kd.R_step HO6.out (fun q ho _ => rk.other q (by have := ho.1; have := hD'.out; omega))) (fun _ _ => trivial)
        | false =>
         have H := H'.out
         clear H'
         rw [if_neg (by decide)] at H
         have H' := Aside0.mk H
         clear H
         obtain ⟨Ao, co, eo⟩ := Kd.R_slice HO.out
         subst eo
         have hcf_0 := blk_cell Bf.out 0; have hcf_1 := blk_cell Bf.out 1; have hcb_0 := blk_cell B3.out 0; have hcb_1 := blk_cell B3.out 1; have hco := blk_cell B6.out 0; have hfo := blk_frozen B6.out 0; have hlo := blk_lt B6.out; simp at hcf_0 hcf_1 hcb_0 hcb_1 hco
         gi_wp2_with (first | (refine ⟨trivial, ?_⟩; gi_at_call 68; (with_reducible refine (CallsIn.inRound l (callsIn_wide.2 (yard_beside.calls a1_0 a1_1 x0 x1 false _ A5.out))).mono ?_); rintro e wc ⟨rfl, hbc⟩; have nB3 := Aside0.mk (blk_below B3.out hbc); have nB6 := Aside0.mk (blk_below B6.out hbc); have nBn := Aside0.mk (blk_below Bn.out hbc); have nF3 := Aside0.mk (blk_below F3.out hbc); have nF4 := Aside0.mk (blk_below F4.out hbc); have nBf := Aside0.mk (blk_below Bf.out hbc); have nHO := Aside0.mk (Kd.R_below HO.out hbc); have nHB := Aside0.mk (below_step HB.out hbc); have nR4 := Aside0.mk (rec_below (fun _ _ _ => Iff.rfl) R4.out hbc); clear hcf_0 hcf_1 hcb_0 hcb_1 hco hfo hlo B3 B6 Bn F3 F4 Bf HO HB R4 hbc; have B3 := nB3; have B6 := nB6; have Bn := nBn; have F3 := nF3; have F4 := nF4; have Bf := nBf; have HO := nHO; have HB := nHB; have R4 := nR4; clear nB3 nB6 nBn nF3 nF4 nBf nHO nHB nR4; have hcf_0 := blk_cell Bf.out 0; have hcf_1 := blk_cell Bf.out 1; have hcb_0 := blk_cell B3.out 0; have hcb_1 := blk_cell B3.out 1; have hco := blk_cell B6.out 0; have hfo := blk_frozen B6.out 0; have hlo := blk_lt B6.out; simp at hcf_0 hcf_1 hcb_0 hcb_1 hco) | (refine ⟨trivial, ?_⟩; gi_at_call 68; (with_reducible refine (CallsIn.inRound l (callsIn_wide.2 (yard_beside.calls x0 x1 a1_0 a1_1 false _ A6.out))).mono ?_); rintro e wc ⟨rfl, hbc⟩; have nB3 := Aside0.mk (blk_below B3.out hbc); have nB6 := Aside0.mk (blk_below B6.out hbc); have nBn := Aside0.mk (blk_below Bn.out hbc); have nF3 := Aside0.mk (blk_below F3.out hbc); have nF4 := Aside0.mk (blk_below F4.out hbc); have nBf := Aside0.mk (blk_below Bf.out hbc); have nHO := Aside0.mk (Kd.R_below HO.out hbc); have nHB := Aside0.mk (below_step HB.out hbc); have nR4 := Aside0.mk (rec_below (fun _ _ _ => Iff.rfl) R4.out hbc); clear hcf_0 hcf_1 hcb_0 hcb_1 hco hfo hlo B3 B6 Bn F3 F4 Bf HO HB R4 hbc; have B3 := nB3; have B6 := nB6; have Bn := nBn; have F3 := nF3; have F4 := nF4; have Bf := nBf; have HO := nHO; have HB := nHB; have R4 := nR4; clear nB3 nB6 nBn nF3 nF4 nBf nHO nHB nR4; have hcf_0 := blk_cell Bf.out 0; have hcf_1 := blk_cell Bf.out 1; have hcb_0 := blk_cell B3.out 0; have hcb_1 := blk_cell B3.out 1; have hco := blk_cell B6.out 0; have hfo := blk_frozen B6.out 0; have hlo := blk_lt B6.out; simp at hcf_0 hcf_1 hcb_0 hcb_1 hco) | (refine ⟨show Fence.wide.fn 68 from trivial, ?_⟩))
         clear hcf_0 hcf_1 hcb_0 hcb_1 hco hfo hlo Bf
         obtain ⟨W5, hend, R5, hk5⟩ := rec_end (P := Try.prog) none R4.out hlD'.out
         replace B3 := Aside0.mk ((hk5.other _ (by have := hl'.out; have := hD'.out; have := hge3.out; have := hge4.out; have := hs6.out; omega)).trans B3.out)
         replace B6 := Aside0.mk ((hk5.other _ (by have := hl'.out; have := hD'.out; have := hge3.out; have := hge4.out; have := hs6.out; omega)).trans B6.out)
         replace Bn := Aside0.mk ((hk5.other _ (by have := hl'.out; have := hD'.out; have := hge3.out; have := hge4.out; have := hs6.out; omega)).trans Bn.out)
         replace F3 := Aside0.mk ((hk5.other _ (by have := hl'.out; have := hD'.out; have := hge3.out; have := hge4.out; have := hs6.out; omega)).trans F3.out)
         replace F4 := Aside0.mk ((hk5.other _ (by have := hl'.out; have := hD'.out; have := hge3.out; have := hge4.out; have := hs6.out; omega)).trans F4.out)
         replace HO := Aside0.mk (Kd.R_step HO.out (fun q ho _ => hk5.other q (by have := ho.1; have := hl'.out; omega)))
         replace HB := Aside0.mk (hk5.below _ _ (by have := hl'.out; have := hD'.out; have := hge3.out; have := hge4.out; have := hs6.out; omega) HB.out)
         replace R5 := Aside0.mk R5
         clear R4 hk5
         have hc3_0 := blk_cell F3.out 0
         have hc3_1 := blk_cell F3.out 1
         have hf3_0 := blk_frozen F3.out 0
         have hf3_1 := blk_frozen F3.out 1
         have hcg_0 := blk_cell F4.out 0
         have hcg_1 := blk_cell F4.out 1
         have hfg_0 := blk_frozen F4.out 0
         have hfg_1 := blk_frozen F4.out 1
         have hcn := blk_cell Bn.out 0
         simp at hc3_0 hc3_1 hcg_0 hcg_1 hcn
         by_cases c3 : x0 < x1
         ·have H := H'.out
          clear H'
          rw [if_pos c3] at H
          have c3b : decide (x0 < x1) = true := decide_eq_true c3
          clear c3
          by_cases c4 : y1 = 0
          ·rw [if_pos c4] at H; simp at H
          rw [if_neg c4] at H
          have c4b : (y1 == 0) = false := beq_eq_false_iff_ne.mpr c4
          have H' := Aside0.mk H
          clear H
          have hnn := hne.out
          have hnn' := Ne.symm hne.out
          refine ⟨_, W5, hend, ?_⟩
          gi_wp2
          gi_region
          gi_wp2
          obtain ⟨W8, hW8⟩ : ∃ W8, W8 = (((((W5.setCell ⟨g3, 0, none⟩ (.int .i64 y0)).setCell ⟨g3, 1, none⟩ (.int .i64 y1)).setCell ⟨g4, 0, none⟩ (.int .i64 (wrap64 (wrap64 (wrap64 (Int.tdiv (wrap64 (a0 + x1)) y1) * y0) - x0)))).setCell ⟨g4, 1, none⟩ (.int .i64 (wrap64 (wrap64 (wrap64 (Int.tdiv (wrap64 (a0 + x1)) y1) * y1) - x1)))).drew) := ⟨_, rfl⟩
          rw [← hW8]
          have e8 : ∀ q, q ≠ g3 → q ≠ g4 → W8.heap[q]? = W5.heap[q]? := fun q h3 h4 => by
           rw [hW8, heap_drew, Below.heap_setCell _ _ _ q h4, Below.heap_setCell _ _ _ q h4, Below.heap_setCell _ _ _ q h3, Below.heap_setCell _ _ _ q h3]
          have G3 : W8.heap[g3]? = some (.cells #[.int .i64 y0, .int .i64 y1] 23 (0, 0)) := by
           rw [hW8, heap_drew, Below.heap_setCell _ _ _ g3 hne.out, Below.heap_setCell _ _ _ g3 hne.out]
           exact blk_put (cs := #[.int .i64 y0, .int .i64 x1]) (blk_put (cs := #[.int .i64 x0, .int .i64 x1]) F3.out 0 _ rfl) 1 _ rfl
          have G4 : W8.heap[g4]? = some (.cells #[.int .i64 (wrap64 (wrap64 (wrap64 (Int.tdiv (wrap64 (a0 + x1)) y1) * y0) - x0)), .int .i64 (wrap64 (wrap64 (wrap64 (Int.tdiv (wrap64 (a0 + x1)) y1) * y1) - x1))] 23 (0, 0)) := by
           rw [hW8, heap_drew]
           exact blk_put (cs := #[.int .i64 (wrap64 (wrap64 (wrap64 (Int.tdiv (wrap64 (a0 + x1)) y1) * y0) - x0)), .int .i64 y1]) (blk_put (cs := #[.int .i64 y0, .int .i64 y1]) (blk_far (blk_far F4.out (Ne.symm hne.out) _) (Ne.symm hne.out) _) 0 _ rfl) 1 _ rfl
          have HB8 : Below w.heap.size w W8 := by
           rw [hW8]
           exact below_drew1 (below_set (below_set (below_set (below_set HB.out (by have := hl'.out; have := hD'.out; have := hge3.out; have := hge4.out; have := hs6.out; omega)) (by have := hl'.out; have := hD'.out; have := hge3.out; have := hge4.out; have := hs6.out; omega)) (by have := hl'.out; have := hD'.out; have := hge3.out; have := hge4.out; have := hs6.out; omega)) (by have := hl'.out; have := hD'.out; have := hge3.out; have := hge4.out; have := hs6.out; omega))
          have R8 := (hRR.out _ _ _).2 (rec_far R5.out e8 (by have := hl'.out; have := hD'.out; have := hge3.out; have := hge4.out; have := hs6.out; omega) (by have := hl'.out; have := hD'.out; have := hge3.out; have := hge4.out; have := hs6.out; omega) (by have := hl'.out; have := hD'.out; have := hge3.out; have := hge4.out; have := hs6.out; omega) (by have := hl'.out; have := hD'.out; have := hge3.out; have := hge4.out; have := hs6.out; omega))
          have K8 := (e8 _ (by have := hl'.out; have := hD'.out; have := hge3.out; have := hge4.out; have := hs6.out; omega) (by have := hl'.out; have := hD'.out; have := hge3.out; have := hge4.out; have := hs6.out; omega)).trans B3.out
          have M8 := (e8 _ (by have := hl'.out; have := hD'.out; have := hge3.out; have := hge4.out; have := hs6.out; omega) (by have := hl'.out; have := hD'.out; have := hge3.out; have := hge4.out; have := hs6.out; omega)).trans B6.out
          have P8 := (e8 _ (by have := hl'.out; have := hD'.out; have := hge3.out; have := hge4.out; have := hs6.out; omega) (by have := hl'.out; have := hD'.out; have := hge3.out; have := hge4.out; have := hs6.out; omega)).trans Bn.out
          have O8 := Kd.R_step HO.out (fun q ho _ => e8 q ho.2.1 ho.2.2)
          clear hW8 e8
          gi_roundg k1
          case measure => have := HK.out; omega
          case rel => exact ⟨y0, y1, (wrap64 (wrap64 (wrap64 (Int.tdiv (wrap64 (a0 + x1)) y1) * y0) - x0)), (wrap64 (wrap64 (wrap64 (Int.tdiv (wrap64 (a0 + x1)) y1) * y1) - x1)), out, _, H', ⟨by have := HK.out; omega⟩, ⟨K8⟩, ⟨M8⟩, ⟨P8⟩, ⟨G3⟩, ⟨G4⟩, ⟨O8⟩, ⟨R8⟩, ⟨HB8⟩⟩
         ·have H := H'.out
          clear H'
          rw [if_neg c3] at H
          have c3b : decide (x0 < x1) = false := decide_eq_false c3
          clear c3
          simp only [Option.some.injEq, Prod.mk.injEq] at H
          obtain ⟨hr1, hr2⟩ := H
          obtain ⟨W6, hov, hK6, hk6⟩ := rec_over (P := Try.prog) R5.out hlD'.out (by decide)
          have D6 := Aside0.mk ((hk6.other _ (by have := hl'.out; have := hD'.out; have := hge3.out; have := hge4.out; have := hs6.out; omega)).trans B6.out)
          have HO6 := Aside0.mk (Kd.R_step HO.out (fun q ho _ => hk6.other q (by have := ho.1; have := hl'.out; omega)))
          have HB6 := Aside0.mk (hk6.below _ _ (by have := hl'.out; have := hD'.out; have := hge3.out; have := hge4.out; have := hs6.out; omega) HB.out)
          have hK6' := Aside0.mk hK6
          have hr1 := Aside0.mk hr1
          have hr2 := Aside0.mk hr2
          clear hk6 hK6
          have hd6 := blk_cell D6.out 0
          have hd6f := blk_frozen D6.out 0
          simp at hd6
          refine ⟨_, W5, hend, ?_⟩
          gi_wp2
          go_end0
          refine ⟨none, W6, hov, ?_⟩
          gi_wp2
          refine ⟨by simp, .inl ⟨_, _, rfl, run_takeDeferred hK6'.out, ?_⟩⟩
          have rk := recKept_put hK6'.out (.deferred none)
          refine ⟨_, by simp [results, Try.f52, go_sem]; rfl, _, by rw [← hr2.out], ?_, rk.below _ _ (by have := hl'.out; have := hD'.out; have := hge3.out; have := hge4.out; have := hs6.out; omega) HB6.out⟩
          rw [← hr1.out]
          (try rw [show out.length + 1 = (out ++ [(⟨x0, x1⟩ : S23)]).length from (by simp)])
          exact Kd.R_mono (Kd.R_step HO6.out (fun q ho _ => rk.other q (by have := ho.1; have := hD'.out; omega))) (fun _ _ => trivial)
end Go.Proofs.Ythjodhmkmjabbaa.PY
