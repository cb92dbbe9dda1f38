/- The walk of yard.Follow: what it computes, as a Lean function. -/
import Derived.Test.YthjodhmkmjabbaaGPath
namespace Go.Proofs.Ythjodhmkmjabbaa.PY
open Go.RowKit Go.Proofs.YthjodhmkmjabbaaW.PrintWords Go.Proofs.YthjodhmkmjabbaaW.PrintLast Go.Proofs.YthjodhmkmjabbaaW.PrintMore
attribute [local go_sem] max2_int min2_int max_two min_two max_three min_three max_four min_four
set_option linter.unusedVariables false
set_option linter.unusedSimpArgs false
mutual
def yard_Follow.l1 : Nat → ByteArray → Int → Int → Int → Int → Int → Option (Int × Int × Int)
  | 0, _, _, _, _, _, _ => none
  | k + 1, s, i, x0, x1, x2, x3 =>
    if i < (s.size : Int) then
      (if wrap64 (x1 + x3) > 1000000 then some (0, 0, 5)
      else if bt s i = 76 then yard_Follow.l1 k s (i + 1) x0 x1 (wrap64 (x0 + x2)) (wrap64 (x1 + x3))
      else yard_Follow.l1 k s (i + 1) (wrap64 (x0 + x2)) (wrap64 (x1 + x3)) x2 x3)
    else if wrap64 (x1 + x3) > 1000000 then some (0, 0, 5) else some (wrap64 (x0 + x2), wrap64 (x1 + x3), 0)
def yard_Follow.l0 : Nat → ByteArray → Int → Option (Int × Int × Int)
  | 0, _, _ => none
  | k + 1, s, i => if i < (s.size : Int) then (if isTurn (bt s i) = true then yard_Follow.l0 k s (i + 1) else some (0, 0, 2)) else yard_Follow.l1 k s 0 0 1 1 1
end
def yard_Follow.f (k : Nat) (a0 : ByteArray) : Option (Int × Int × Int) := if (a0.size : Int) > 200 then some (0, 0, 2) else yard_Follow.l0 k a0 0
theorem look_ok_d (W : World) (c : Int) : (Instr.lookup 82 (.map (some W.heap.size)) (.int .u8 c) true).run Try.prog (W.alloc (.map turnsEs 2)).drew = .ok (.tuple #[.int .i64 (turnOf c), .bool (isTurn c)]) (W.alloc (.map turnsEs 2)).drew := look_run_ok (blk_drew (MapKept.heap_alloc W _).1) c
theorem look_lit_d (W : World) (c t : Int) (h : turnOf c = t) : (Instr.lookup 82 (.map (some W.heap.size)) (.int .u8 c) false).run Try.prog (W.alloc (.map turnsEs 2)).drew = .ok (.int .i64 t) (W.alloc (.map turnsEs 2)).drew := by rw [← h]; exact look_fact_d W c
theorem look_lit2_d (W : World) (o : Obj) (c t : Int) (h : turnOf c = t) : (Instr.lookup 82 (.map (some (W.heap.size + 1))) (.int .u8 c) false).run Try.prog ((W.alloc o).alloc (.map turnsEs 2)).drew = .ok (.int .i64 t) ((W.alloc o).alloc (.map turnsEs 2)).drew := by
  have := look_lit_d (W.alloc o) c t h
  rwa [World.size_alloc] at this
theorem field_run (a b : Int) (w : World) : (Instr.field 23 (.agg #[.int .i64 a, .int .i64 b]) 1).run Try.prog w = .ok (.int .i64 b) w := by kernel_rfl
theorem look_okb_d (W : World) (c : Int) (b : Bool) (h : isTurn c = b) : (Instr.lookup 82 (.map (some W.heap.size)) (.int .u8 c) true).run Try.prog (W.alloc (.map turnsEs 2)).drew = .ok (.tuple #[.int .i64 (turnOf c), .bool b]) (W.alloc (.map turnsEs 2)).drew := by rw [← h]; exact look_ok_d W c
theorem bt_nat (s : ByteArray) (j : Nat) (h : j < s.size) : (s[j].toNat : Int) = bt s j := bt_at s j (by simpa using h)
theorem yard_Follow.mono_l : ∀ k, (∀ y0 y1 y2 y3 y4 y5, LeO (yard_Follow.l1 k y0 y1 y2 y3 y4 y5) (yard_Follow.l1 (k + 1) y0 y1 y2 y3 y4 y5)) ∧ (∀ y0 y1, LeO (yard_Follow.l0 k y0 y1) (yard_Follow.l0 (k + 1) y0 y1))
  | 0 => ⟨fun _ _ _ _ _ _ r h => by simp [yard_Follow.l1] at h, fun _ _ r h => by simp [yard_Follow.l0] at h⟩
  | k + 1 => by
    obtain ⟨ih0, ih1⟩ := yard_Follow.mono_l k
    refine ⟨?_, ?_⟩
    · intro y0 y1 y2 y3 y4 y5
      unfold yard_Follow.l1
      repeat' first
      | (with_reducible exact ih0 _ _ _ _ _ _)
      | (with_reducible exact LeO.refl _)
      | (with_reducible exact LeO.none _)
      | (with_reducible refine LeO.ite ?_ ?_)
      | (with_reducible refine LeO.bind ?_ (fun _ => ?_))
    · intro y0 y1
      unfold yard_Follow.l0
      repeat' first
      | (with_reducible exact ih0 _ _ _ _ _ _)
      | (with_reducible exact ih1 _ _)
      | (with_reducible exact LeO.refl _)
      | (with_reducible exact LeO.none _)
      | (with_reducible refine LeO.ite ?_ ?_)
      | (with_reducible refine LeO.bind ?_ (fun _ => ?_))
theorem yard_Follow.mono : ∀ a0 k, LeO (yard_Follow.f k a0) (yard_Follow.f (k + 1) a0) := by
  intro a0 k
  obtain ⟨ih0, ih1⟩ := yard_Follow.mono_l k
  unfold yard_Follow.f
  repeat' first
      | (with_reducible exact ih1 _ _)
      | (with_reducible exact LeO.refl _)
      | (with_reducible refine LeO.ite ?_ ?_)
set_option maxHeartbeats 8000000 in
set_option maxRecDepth 100000 in
theorem yard_Follow.calls (k : Nat) (a0 : ByteArray) (r1 r2 r3 : Int) (w : World) (h : yard_Follow.f k a0 = some (r1, r2, r3)) :
    Calls Try.prog 39 #[.string a0] w fun e w' => e = .returned (.tuple #[.agg #[.int .i64 r1, .int .i64 r2], .int .i64 r3]) ∧ Below w.heap.size w w' := by
  have hu23 := Try.underlying23
  have hu78 := Try.underlying78
  unfold yard_Follow.f at h
  by_cases c1 : (a0.size : Int) > 200
  · rw [if_pos c1] at h
    simp only [Option.some.injEq, Prod.mk.injEq] at h
    obtain ⟨rfl, rfl, rfl⟩ := h
    have c1b : decide (200 < (a0.size : Int)) = true := decide_eq_true c1
    have c1c : 200 < a0.size := by omega
    go_enter Try.func39, Try.ntmps39
    go_wp2
    exact bodyPost_ret (v := .tuple #[.agg #[.int .i64 0, .int .i64 0], .int .i64 2]) (by simp [results, Try.results39, go_sem]) rfl ⟨rfl, (Below.refl _ _).alloc (Nat.le_refl _) _⟩
  · rw [if_neg c1] at h
    have c1b : decide (200 < (a0.size : Int)) = false := decide_eq_false c1
    have c1c : a0.size ≤ 200 := by omega
    have H' := Aside0.mk h
    clear h
    go_enter Try.func39, Try.ntmps39
    go_wp2
    go_loopg [16] k (fun kq v16 wr => ∃ (j : Nat), v16 = .int .i64 j ∧ j ≤ a0.size ∧ Aside0 (yard_Follow.l0 kq a0 j = some (r1, r2, r3)) ∧ Aside0 (kq ≤ k) ∧ Aside0 (wr.heap[w.heap.size]? = some (.cells #[.int .i64 0, .int .i64 0] 23 (0, 0))) ∧ Aside0 (Below w.heap.size w wr))
    case atStart => exact ⟨0, rfl, by omega, H', ⟨Nat.le_refl _⟩, ⟨blk_new w _⟩, ⟨below_alloc (Below.refl _ w) _⟩⟩
    case round =>
      clear H'
      obtain ⟨j, rfl, hj, HA, HK, B2, HB⟩ := hrel
      cases gk with
      | zero => exact absurd HA.out (by simp [yard_Follow.l0])
      | succ k1 =>
        have H := HA.out
        clear HA
        simp only [yard_Follow.l0] at H
        have hf2_0 := blk_frozen B2.out 0
        have hf2_1 := blk_frozen B2.out 1
        have hc2_0 := blk_cell B2.out 0
        have hc2_1 := blk_cell B2.out 1
        have hl2 := blk_lt B2.out
        simp at hc2_0 hc2_1
        by_cases c2 : (j : Int) < (a0.size : Int)
        · rw [if_pos c2] at H
          have c2n : j < a0.size := by omega
          have hbt := Aside0.mk (bt_nat a0 j c2n)
          cases hT : isTurn (bt a0 j) with
          | true =>
            rw [if_pos hT] at H
            have hlk := fun W => look_okb_d W (a0[j].toNat : Int) true (by rw [hbt.out]; exact hT)
            have hT' := Aside0.mk hT
            clear hT
            have H' := Aside0.mk H
            clear H
            go_wp2
            go_region_with (go_at_call 64; (with_reducible refine (turns.calls _).mono ?_); rintro e w5 ⟨rfl, rfl⟩)
            all_goals
              go_wp2
              go_roundg k1
              case measure => have := HK.out; omega
              case rel => exact ⟨j + 1, by go_num, by omega, ⟨by simpa using H'.out⟩, ⟨by have := HK.out; omega⟩, ⟨by (with_reducible repeat (first | refine blk_drewN ?_ _ | refine blk_drew ?_ | refine blk_alloc ?_ _)); exact B2.out⟩, ⟨by repeat (first | (with_reducible first | exact HB.out | apply below_alloc | apply pw_below_drewN | apply below_drew1 | refine below_set ?_ (Nat.le_refl _)) | exact HB.out)⟩⟩
          | false =>
            rw [if_neg (by rw [hT]; decide)] at H
            simp only [Option.some.injEq, Prod.mk.injEq] at H
            obtain ⟨rfl, rfl, rfl⟩ := H
            have hlk := fun W => look_okb_d W (a0[j].toNat : Int) false (by rw [hbt.out]; exact hT)
            have hT' := Aside0.mk hT
            clear hT
            go_wp2
            go_region_with (go_at_call 64; (with_reducible refine (turns.calls _).mono ?_); rintro e w5 ⟨rfl, rfl⟩)
            all_goals
              go_wp2
              refine bodyPost_ret (results_ct rfl _ _ w.heap.size 23 #[.int .i64 0, .int .i64 0] (0, 0) _ rfl (by (with_reducible repeat (first | refine blk_drewN ?_ _ | refine blk_drew ?_ | refine blk_alloc ?_ _)); refine blk_put (cs := #[.int .i64 0, .int .i64 0]) ?_ 1 _ rfl; (with_reducible repeat (first | refine blk_drewN ?_ _ | refine blk_drew ?_ | refine blk_alloc ?_ _)); refine blk_put (cs := #[.int .i64 0, .int .i64 0]) ?_ 0 _ rfl; (with_reducible repeat (first | refine blk_drewN ?_ _ | refine blk_drew ?_ | refine blk_alloc ?_ _)); exact B2.out) Try.underlying23 rfl (by kernel_rfl)) rfl ?_
              exact ⟨rfl, by repeat (first | (with_reducible first | exact HB.out | apply below_alloc | apply pw_below_drewN | apply below_drew1 | refine below_set ?_ (Nat.le_refl _)) | exact HB.out)⟩
        · rw [if_neg c2] at H
          have hje : j = a0.size := by omega
          have H' := Aside0.mk H
          clear H
          go_wp2_with (go_at_call 61; (with_reducible refine (whole.calls _).mono ?_); rintro e w2 ⟨rfl, hb2⟩; have n2 := Aside0.mk (blk_below B2.out hb2); have nb := Aside0.mk (below_step HB.out hb2); clear hf2_0 hf2_1 hc2_0 hc2_1 hl2 B2 HB hb2; have B2 := n2; have HB := nb; clear n2 nb)
          have NE27 := Aside0.mk (Nat.ne_of_lt (blk_lt B2.out))
          have B7 := Aside0.mk (blk_new w2 (.cells #[.int .i64 0, .int .i64 1, .int .i64 1, .int .i64 1] 78 (0, 0)))
          have B2' := Aside0.mk (blk_alloc B2.out (.cells #[.int .i64 0, .int .i64 1, .int .i64 1, .int .i64 1] 78 (0, 0)))
          have HB' := Aside0.mk (below_alloc HB.out (.cells #[.int .i64 0, .int .i64 1, .int .i64 1, .int .i64 1] 78 (0, 0)))
          have GE7 := Aside0.mk HB.out.size
          clear B2 HB
          clear hj hje c2
          go_loopg [34] k1 (fun kq v34 wq => ∃ (j : Nat) (x0 x1 x2 x3 : Int), v34 = .int .i64 j ∧ j ≤ a0.size ∧ Aside0 (yard_Follow.l1 kq a0 j x0 x1 x2 x3 = some (r1, r2, r3)) ∧ Aside0 (kq ≤ k1) ∧ Aside0 (wq.heap[w.heap.size]? = some (.cells #[.int .i64 0, .int .i64 0] 23 (0, 0))) ∧ Aside0 (wq.heap[w2.heap.size]? = some (.cells #[.int .i64 x0, .int .i64 x1, .int .i64 x2, .int .i64 x3] 78 (0, 0))) ∧ Aside0 (Below w.heap.size w wq))
          case atStart => exact ⟨0, 0, 1, 1, 1, rfl, by omega, H', ⟨Nat.le_refl _⟩, B2', B7, HB'⟩
          case round =>
            clear H' B7 B2' HB'
            obtain ⟨j, x0, x1, x2, x3, rfl, hj, HA, HK3, B2, B7, HB⟩ := hrel
            cases gk with
            | zero => exact absurd HA.out (by simp [yard_Follow.l1])
            | succ k3 =>
              have H := HA.out
              clear HA
              simp only [yard_Follow.l1] at H
              have hl7 := blk_lt B7.out
              have hc7_0 := blk_cell B7.out 0
              have hc7_1 := blk_cell B7.out 1
              have hc7_2 := blk_cell B7.out 2
              have hc7_3 := blk_cell B7.out 3
              simp at hc7_0 hc7_1 hc7_2 hc7_3
              by_cases c3 : (j : Int) < (a0.size : Int)
              · rw [if_pos c3] at H
                have c3n : j < a0.size := by omega
                have hbt := Aside0.mk (bt_nat a0 j c3n)
                by_cases c4 : wrap64 (x1 + x3) > 1000000
                · rw [if_pos c4] at H
                  simp only [Option.some.injEq, Prod.mk.injEq] at H
                  obtain ⟨rfl, rfl, rfl⟩ := H
                  have c4b : decide (1000000 < wrap64 (x1 + x3)) = true := decide_eq_true c4
                  clear c4
                  go_wp2_with (first | (go_at_call 62; (with_reducible refine (middle.calls _ _ _ _ _).mono ?_); rintro e w7 ⟨rfl, hb7⟩; have C2 := Aside0.mk (blk_below B2.out hb7); have CB := Aside0.mk (below_step HB.out hb7); clear B2 B7 HB hb7 hc7_0 hc7_1 hc7_2 hc7_3 hl7; have B2 := C2; have HB := CB; clear C2 CB; have hf2_0 := blk_frozen B2.out 0; have hf2_1 := blk_frozen B2.out 1; have hc2_0 := blk_cell B2.out 0; have hc2_1 := blk_cell B2.out 1; have hl2 := blk_lt B2.out; simp at hc2_0 hc2_1))
                  refine bodyPost_ret (results_ct rfl _ _ w.heap.size 23 #[.int .i64 0, .int .i64 0] (0, 0) _ rfl (by (with_reducible repeat (first | refine blk_drewN ?_ _ | refine blk_drew ?_ | refine blk_alloc ?_ _)); refine blk_put (cs := #[.int .i64 0, .int .i64 0]) ?_ 1 _ rfl; (with_reducible repeat (first | refine blk_drewN ?_ _ | refine blk_drew ?_ | refine blk_alloc ?_ _)); refine blk_put (cs := #[.int .i64 0, .int .i64 0]) ?_ 0 _ rfl; (with_reducible repeat (first | refine blk_drewN ?_ _ | refine blk_drew ?_ | refine blk_alloc ?_ _)); exact B2.out) Try.underlying23 rfl (by kernel_rfl)) rfl ?_
                  exact ⟨rfl, by repeat (first | (with_reducible first | exact HB.out | apply below_alloc | apply pw_below_drewN | apply below_drew1 | refine below_set ?_ (Nat.le_refl _)) | exact HB.out)⟩
                rw [if_neg c4] at H
                have c4b : decide (1000000 < wrap64 (x1 + x3)) = false := decide_eq_false c4
                clear c4
                by_cases c76 : bt a0 j = 76
                · rw [if_pos c76] at H
                  have hlk := fun W => look_lit2_d W (.cells #[.int .i64 (wrap64 (x0 + x2)), .int .i64 (wrap64 (x1 + x3))] 23 (0, 0)) (a0[j].toNat : Int) 1 (by rw [hbt.out]; simp [turnOf, c76])
                  have H' := Aside0.mk H
                  clear H
                  have c76' := Aside0.mk c76
                  clear c76
                  go_wp2_with (first | (go_at_call 62; (with_reducible refine (middle.calls _ _ _ _ _).mono ?_); rintro e w7 ⟨rfl, hb7⟩; have C2 := Aside0.mk (blk_below B2.out hb7); have C7 := Aside0.mk (blk_below B7.out hb7); have CB := Aside0.mk (below_step HB.out hb7); clear B2 B7 HB hb7 hc7_0 hc7_1 hc7_2 hc7_3; have B2 := C2; have B7 := C7; have HB := CB; clear C2 C7 CB; have hl7 := blk_lt B7.out; have hc7_0 := blk_cell B7.out 0; have hc7_1 := blk_cell B7.out 1; have hc7_2 := blk_cell B7.out 2; have hc7_3 := blk_cell B7.out 3; have hf7_0 := blk_frozen B7.out 0; have hf7_1 := blk_frozen B7.out 1; have hf7_2 := blk_frozen B7.out 2; have hf7_3 := blk_frozen B7.out 3; simp at hc7_0 hc7_1 hc7_2 hc7_3))
                  go_region_with (go_at_call 64; (with_reducible refine (turns.calls _).mono ?_); rintro e w5 ⟨rfl, rfl⟩)
                  all_goals
                    go_wp2
                    go_roundg k3
                    case measure => have := HK3.out; omega
                    case rel => exact ⟨j + 1, x0, x1, (wrap64 (x0 + x2)), (wrap64 (x1 + x3)), by go_num, by omega, ⟨by simpa using H'.out⟩, ⟨by have := HK3.out; omega⟩, ⟨by (with_reducible repeat (first | refine blk_drewN ?_ _ | refine blk_drew ?_ | refine blk_alloc ?_ _)); refine blk_far ?_ NE27.out _; (with_reducible repeat (first | refine blk_drewN ?_ _ | refine blk_drew ?_ | refine blk_alloc ?_ _)); refine blk_far ?_ NE27.out _; (with_reducible repeat (first | refine blk_drewN ?_ _ | refine blk_drew ?_ | refine blk_alloc ?_ _)); exact B2.out⟩, ⟨by (with_reducible repeat (first | refine blk_drewN ?_ _ | refine blk_drew ?_ | refine blk_alloc ?_ _)); refine blk_put (cs := #[.int .i64 x0, .int .i64 x1, .int .i64 (wrap64 (x0 + x2)), .int .i64 x3]) ?_ 3 _ rfl; (with_reducible repeat (first | refine blk_drewN ?_ _ | refine blk_drew ?_ | refine blk_alloc ?_ _)); refine blk_put (cs := #[.int .i64 x0, .int .i64 x1, .int .i64 x2, .int .i64 x3]) ?_ 2 _ rfl; (with_reducible repeat (first | refine blk_drewN ?_ _ | refine blk_drew ?_ | refine blk_alloc ?_ _)); exact B7.out⟩, ⟨by repeat (first | (with_reducible first | exact HB.out | apply below_alloc | apply pw_below_drewN | apply below_drew1 | refine below_set ?_ GE7.out) | exact HB.out)⟩⟩
                · rw [if_neg c76] at H
                  have hlk := fun W => look_lit2_d W (.cells #[.int .i64 (wrap64 (x0 + x2)), .int .i64 (wrap64 (x1 + x3))] 23 (0, 0)) (a0[j].toNat : Int) 0 (by rw [hbt.out]; simp [turnOf, c76])
                  have H' := Aside0.mk H
                  clear H
                  have c76' := Aside0.mk c76
                  clear c76
                  go_wp2_with (first | (go_at_call 62; (with_reducible refine (middle.calls _ _ _ _ _).mono ?_); rintro e w7 ⟨rfl, hb7⟩; have C2 := Aside0.mk (blk_below B2.out hb7); have C7 := Aside0.mk (blk_below B7.out hb7); have CB := Aside0.mk (below_step HB.out hb7); clear B2 B7 HB hb7 hc7_0 hc7_1 hc7_2 hc7_3; have B2 := C2; have B7 := C7; have HB := CB; clear C2 C7 CB; have hl7 := blk_lt B7.out; have hc7_0 := blk_cell B7.out 0; have hc7_1 := blk_cell B7.out 1; have hc7_2 := blk_cell B7.out 2; have hc7_3 := blk_cell B7.out 3; have hf7_0 := blk_frozen B7.out 0; have hf7_1 := blk_frozen B7.out 1; have hf7_2 := blk_frozen B7.out 2; have hf7_3 := blk_frozen B7.out 3; simp at hc7_0 hc7_1 hc7_2 hc7_3))
                  go_region_with (go_at_call 64; (with_reducible refine (turns.calls _).mono ?_); rintro e w5 ⟨rfl, rfl⟩)
                  all_goals
                    go_wp2
                    go_roundg k3
                    case measure => have := HK3.out; omega
                    case rel => exact ⟨j + 1, (wrap64 (x0 + x2)), (wrap64 (x1 + x3)), x2, x3, by go_num, by omega, ⟨by simpa using H'.out⟩, ⟨by have := HK3.out; omega⟩, ⟨by (with_reducible repeat (first | refine blk_drewN ?_ _ | refine blk_drew ?_ | refine blk_alloc ?_ _)); refine blk_far ?_ NE27.out _; (with_reducible repeat (first | refine blk_drewN ?_ _ | refine blk_drew ?_ | refine blk_alloc ?_ _)); refine blk_far ?_ NE27.out _; (with_reducible repeat (first | refine blk_drewN ?_ _ | refine blk_drew ?_ | refine blk_alloc ?_ _)); exact B2.out⟩, ⟨by (with_reducible repeat (first | refine blk_drewN ?_ _ | refine blk_drew ?_ | refine blk_alloc ?_ _)); refine blk_put (cs := #[.int .i64 (wrap64 (x0 + x2)), .int .i64 x1, .int .i64 x2, .int .i64 x3]) ?_ 1 _ rfl; (with_reducible repeat (first | refine blk_drewN ?_ _ | refine blk_drew ?_ | refine blk_alloc ?_ _)); refine blk_put (cs := #[.int .i64 x0, .int .i64 x1, .int .i64 x2, .int .i64 x3]) ?_ 0 _ rfl; (with_reducible repeat (first | refine blk_drewN ?_ _ | refine blk_drew ?_ | refine blk_alloc ?_ _)); exact B7.out⟩, ⟨by repeat (first | (with_reducible first | exact HB.out | apply below_alloc | apply pw_below_drewN | apply below_drew1 | refine below_set ?_ GE7.out) | exact HB.out)⟩⟩
              · rw [if_neg c3] at H
                have hfd := fun W => field_run (wrap64 (x0 + x2)) (wrap64 (x1 + x3)) W
                by_cases c4 : wrap64 (x1 + x3) > 1000000
                · rw [if_pos c4] at H
                  simp only [Option.some.injEq, Prod.mk.injEq] at H
                  obtain ⟨rfl, rfl, rfl⟩ := H
                  have c4b : decide (1000000 < wrap64 (x1 + x3)) = true := decide_eq_true c4
                  clear c4
                  go_wp2_with (go_at_call 62; (with_reducible refine (middle.calls _ _ _ _ _).mono ?_); rintro e w7 ⟨rfl, hb7⟩; have C2 := Aside0.mk (blk_below B2.out hb7); have CB := Aside0.mk (below_step HB.out hb7); clear B2 B7 HB hb7 hc7_0 hc7_1 hc7_2 hc7_3 hl7; have B2 := C2; have HB := CB; clear C2 CB; have hf2_0 := blk_frozen B2.out 0; have hf2_1 := blk_frozen B2.out 1; have hc2_0 := blk_cell B2.out 0; have hc2_1 := blk_cell B2.out 1; have hl2 := blk_lt B2.out; simp at hc2_0 hc2_1)
                  refine bodyPost_ret (results_ct rfl _ _ w.heap.size 23 #[.int .i64 0, .int .i64 0] (0, 0) _ rfl (by (with_reducible repeat (first | refine blk_drewN ?_ _ | refine blk_drew ?_ | refine blk_alloc ?_ _)); refine blk_put (cs := #[.int .i64 0, .int .i64 0]) ?_ 1 _ rfl; (with_reducible repeat (first | refine blk_drewN ?_ _ | refine blk_drew ?_ | refine blk_alloc ?_ _)); refine blk_put (cs := #[.int .i64 0, .int .i64 0]) ?_ 0 _ rfl; (with_reducible repeat (first | refine blk_drewN ?_ _ | refine blk_drew ?_ | refine blk_alloc ?_ _)); exact B2.out) Try.underlying23 rfl (by kernel_rfl)) rfl ?_
                  exact ⟨rfl, by repeat (first | (with_reducible first | exact HB.out | apply below_alloc | apply pw_below_drewN | apply below_drew1 | refine below_set ?_ (Nat.le_refl _)) | exact HB.out)⟩
                · rw [if_neg c4] at H
                  simp only [Option.some.injEq, Prod.mk.injEq] at H
                  obtain ⟨rfl, rfl, rfl⟩ := H
                  have c4b : decide (1000000 < wrap64 (x1 + x3)) = false := decide_eq_false c4
                  clear c4
                  go_wp2_with (go_at_call 62; (with_reducible refine (middle.calls _ _ _ _ _).mono ?_); rintro e w7 ⟨rfl, hb7⟩; have C2 := Aside0.mk (blk_below B2.out hb7); have C7 := Aside0.mk (blk_below B7.out hb7); have CB := Aside0.mk (below_step HB.out hb7); clear B2 B7 HB hb7 hc7_0 hc7_1 hc7_2 hc7_3 hl7; have B2 := C2; have B7 := C7; have HB := CB; clear C2 C7 CB; have hl7 := blk_lt B7.out; have hc7_0 := blk_cell B7.out 0; have hc7_1 := blk_cell B7.out 1; have hc7_2 := blk_cell B7.out 2; have hc7_3 := blk_cell B7.out 3; have hf2_0 := blk_frozen B2.out 0; have hf2_1 := blk_frozen B2.out 1; have hc2_0 := blk_cell B2.out 0; have hc2_1 := blk_cell B2.out 1; have hl2 := blk_lt B2.out; simp at hc2_0 hc2_1 hc7_0 hc7_1 hc7_2 hc7_3)
                  refine bodyPost_ret (results_ct rfl _ _ w.heap.size 23 #[.int .i64 (wrap64 (x0 + x2)), .int .i64 (wrap64 (x1 + x3))] (0, 0) _ rfl (by (with_reducible repeat (first | refine blk_drewN ?_ _ | refine blk_drew ?_ | refine blk_alloc ?_ _)); refine blk_put (cs := #[.int .i64 (wrap64 (x0 + x2)), .int .i64 0]) ?_ 1 _ rfl; (with_reducible repeat (first | refine blk_drewN ?_ _ | refine blk_drew ?_ | refine blk_alloc ?_ _)); refine blk_put (cs := #[.int .i64 0, .int .i64 0]) ?_ 0 _ rfl; (with_reducible repeat (first | refine blk_drewN ?_ _ | refine blk_drew ?_ | refine blk_alloc ?_ _)); exact B2.out) Try.underlying23 rfl (by kernel_rfl)) rfl ?_
                  exact ⟨rfl, by repeat (first | (with_reducible first | exact HB.out | apply below_alloc | apply pw_below_drewN | apply below_drew1 | refine below_set ?_ (Nat.le_refl _)) | exact HB.out)⟩
end Go.Proofs.Ythjodhmkmjabbaa.PY
