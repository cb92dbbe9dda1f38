/- The walk of yard.Item: what it computes, as a Lean function. -/
import Derived.Test.YthjodhmkmjabbaaSq
import Derived.Test.YthjodhmkmjabbaaPYx5
import Derived.Test.YthjodhmkmjabbaaGRange
import Derived.RangeFuncRecord
import Derived.RangeFuncNested
import Derived.RangeFuncCalls
import Derived.RangeFuncLeaves
import Derived.Shelf.Abstract
import Derived.Shelf.RegionOpen
import Derived.OwnWalkIn
import Derived.TacticsInMore
import Derived.LoopNIn
import Derived.LoopIn
import Derived.Sort.LoopGhostIn
namespace Go.Proofs.Ythjodhmkmjabbaa.PY
open Go.RowKit Go.Shelf Go.Proofs.YthjodhmkmjabbaaW.PrintWords Go.Proofs.YthjodhmkmjabbaaW.PrintLast Go.Proofs.YthjodhmkmjabbaaW.PrintMore
attribute [local go_sem] Oper.semAt_some
set_option linter.unusedVariables false
set_option linter.unusedSimpArgs false
theorem row.calls (n : Int) (w : World) :
 Calls Try.prog 71 #[.int .i64 n] w fun e w' => e = .returned (.func (.func 83) #[] #[.pointer (some ⟨w.heap.size, 0, none⟩)]) ∧ w' = w.alloc (.cells #[.int .i64 n] 3 (0, 0)) := by
 go_enter Try.func71, Try.ntmps71
 go_wp2
 go_ret
 exact ⟨rfl, rfl⟩
/-- The record lies on where nothing that lay has turned. -/
theorem rec_below {RR : World → LoopState → Option Code → Prop} {l D : Nat} {fn : FuncId} {tm : Array Value} {ps : Array Tmp} {asg bd : Code} (h : ∀ W st pe, RR W st pe ↔ IsRec W l D st pe fn tm ps asg bd)
 {W W' : World} {st : LoopState} {pe : Option Code} (hr : RR W st pe) (hb : Below W.heap.size W W') : RR W' st pe :=
 (h _ _ _).2 ⟨blk_below ((h _ _ _).1 hr).L hb, blk_below ((h _ _ _).1 hr).K hb⟩
def yard_Item.l0 : Nat → Int → Int → Int → Int → Int → Int → Option (Int × Int × Int)
 | 0, _, _, _, _, _, _ => none
 | k + 1, n, a, b, c, d, kk =>
  if kk = 0 then some (a, b, 0)
  else if a < b then
   (if d = 0 then none
   else yard_Item.l0 k n c d (wrap64 (wrap64 (wrap64 (Int.tdiv (wrap64 (n + b)) d) * c) - a)) (wrap64 (wrap64 (wrap64 (Int.tdiv (wrap64 (n + b)) d) * d) - b)) (wrap64 (kk - 1)))
  else some (0, 0, 2)
def yard_Item.f (k : Nat) (n kk : Int) : Option (Int × Int × Int) :=
 (yard_isRow.f n).bind fun t => if t = true then (if kk < 0 then some (0, 0, 2) else yard_Item.l0 k n 0 1 1 n kk) else some (0, 0, 2)
theorem yard_Item.mono_l : ∀ k, (∀ y0 y1 y2 y3 y4 y5, LeO (yard_Item.l0 k y0 y1 y2 y3 y4 y5) (yard_Item.l0 (k + 1) y0 y1 y2 y3 y4 y5))
 | 0 => fun _ _ _ _ _ _ r h => by simp [yard_Item.l0] at h
 | k + 1 => by
  have ih0 := yard_Item.mono_l k
  ·intro y0 y1 y2 y3 y4 y5
   unfold yard_Item.l0
   repeat' first
   | (with_reducible exact ih0 _ _ _ _ _ _)
   | (with_reducible exact LeO.refl _)
   | (with_reducible exact LeO.none _)
   | (with_reducible refine LeO.ite ?_ ?_)
theorem yard_Item.mono : ∀ a0 a1 k, LeO (yard_Item.f k a0 a1) (yard_Item.f (k + 1) a0 a1) := by
 intro a0 a1 k
 have ih0 := yard_Item.mono_l k
 unfold yard_Item.f
 repeat' first
  | (with_reducible exact ih0 _ _ _ _ _ _)
  | (with_reducible exact LeO.refl _)
  | (with_reducible refine LeO.ite ?_ ?_)
  | (with_reducible refine LeO.bind ?_ (fun _ => ?_))
set_option maxHeartbeats 16000000 in
set_option maxRecDepth 100000 in
theorem yard_Item.calls (k : Nat) (a0 a1 : Int) (r1 r2 r3 : Int) (w : World) (h : yard_Item.f k a0 a1 = some (r1, r2, r3)) :
 Calls Try.prog 36 #[.int .i64 a0, .int .i64 a1] w fun e w' => e = .returned (.tuple #[.agg #[.int .i64 r1, .int .i64 r2], .int .i64 r3]) ∧ Below w.heap.size w w' := by
 have hu23 := Try.underlying23
 unfold yard_Item.f at h
 obtain ⟨t, A1, h⟩ := Option.bind_eq_some_iff.mp h
 have A1 := Aside0.mk A1
 cases t with
 | false =>
  rw [if_neg (by decide)] at h
  simp only [Option.some.injEq, Prod.mk.injEq] at h
  obtain ⟨rfl, rfl, rfl⟩ := h
  go_enter Try.func36, Try.ntmps36
  go_wp2_with (go_at_call 69; (with_reducible refine (yard_isRow.calls a0 false _ A1.out).mono ?_); rintro e w1 ⟨rfl, ⟨nd, rfl⟩⟩)
  exact bodyPost_ret (v := .tuple #[.agg #[.int .i64 0, .int .i64 0], .int .i64 2]) (by simp [results, Try.results36, go_sem]) rfl ⟨rfl, by repeat (first | (with_reducible first | exact Below.refl _ _ | apply below_alloc | apply pw_below_drewN | apply below_drew1 | refine below_set ?_ (by omega)))⟩
 | true =>
  rw [if_pos rfl] at h
  by_cases c1 : a1 < 0
  ·rw [if_pos c1] at h
   have c1b : decide (a1 < 0) = true := decide_eq_true c1
   clear c1
   simp only [Option.some.injEq, Prod.mk.injEq] at h
   obtain ⟨rfl, rfl, rfl⟩ := h
   go_enter Try.func36, Try.ntmps36
   go_wp2_with (go_at_call 69; (with_reducible refine (yard_isRow.calls a0 true _ A1.out).mono ?_); rintro e w1 ⟨rfl, ⟨nd, rfl⟩⟩)
   exact bodyPost_ret (v := .tuple #[.agg #[.int .i64 0, .int .i64 0], .int .i64 2]) (by simp [results, Try.results36, go_sem]) rfl ⟨rfl, by repeat (first | (with_reducible first | exact Below.refl _ _ | apply below_alloc | apply pw_below_drewN | apply below_drew1 | refine below_set ?_ (by omega)))⟩
  ·rw [if_neg c1] at h
   have c1b : decide (a1 < 0) = false := decide_eq_false c1
   clear c1
   have H' := Aside0.mk h
   clear h
   have K1 := Aside0.mk (blk_alloc (blk_alloc (blk_new w (.cells #[.int .i64 a1] 3 (0, 0))) (.cells #[.int .i64 0, .int .i64 0] 23 (0, 0))) (.cells #[.int .i64 0] 24 (0, 0)))
   refine (callsIn_wide (n := 3)).1 ?_
   refine callsIn_of_wp_marks Try.func36 rfl trivial ?_
   simp only [Try.ntmps36, List.size_toArray, List.length_cons, List.length_nil, Nat.reduceAdd, Nat.reduceSub, Array.replicate_succ, Array.replicate_zero, List.push_toArray, List.append_toArray, List.nil_append, List.cons_append]
   gi_wp2_with (first | (refine ⟨trivial, ?_⟩; gi_at_call 69; (with_reducible refine (callsIn_wide.2 (yard_isRow.calls a0 true _ A1.out)).mono ?_); rintro e w1 ⟨rfl, ⟨nd, rfl⟩⟩) | (refine ⟨trivial, ?_⟩; gi_at_call 71; (with_reducible refine (callsIn_wide.2 (row.calls a0 _)).mono ?_); rintro e w2 ⟨rfl, rfl⟩))
   obtain ⟨W0, hW0⟩ : ∃ W0, W0 = (((((w.alloc (.cells #[.int .i64 a1] 3 (0, 0))).alloc (.cells #[.int .i64 0, .int .i64 0] 23 (0, 0))).alloc (.cells #[.int .i64 0] 24 (0, 0))).drewN nd).alloc (.cells #[.int .i64 a0] 3 (0, 0))) := ⟨_, rfl⟩
   rw [← hW0]
   have Bk : W0.heap[w.heap.size]? = some (.cells #[.int .i64 a1] 3 (0, 0)) := by rw [hW0]; exact blk_alloc (blk_drewN (blk_alloc (blk_alloc (blk_new w _) _) _) _) _
   have B4 : W0.heap[w.heap.size + 1]? = some (.cells #[.int .i64 0, .int .i64 0] 23 (0, 0)) := by rw [hW0]; exact blk_alloc (blk_drewN (blk_alloc (by have := blk_new (w.alloc (.cells #[.int .i64 a1] 3 (0, 0))) (.cells #[.int .i64 0, .int .i64 0] 23 (0, 0)); rwa [World.size_alloc] at this) _) _) _
   have B5 : W0.heap[w.heap.size + 1 + 1]? = some (.cells #[.int .i64 0] 24 (0, 0)) := by rw [hW0]; exact blk_alloc (blk_drewN (by have := blk_new ((w.alloc (.cells #[.int .i64 a1] 3 (0, 0))).alloc (.cells #[.int .i64 0, .int .i64 0] 23 (0, 0))) (.cells #[.int .i64 0] 24 (0, 0)); rwa [World.size_alloc, World.size_alloc] at this) _) _
   have Bn : W0.heap[w.heap.size + 1 + 1 + 1]? = some (.cells #[.int .i64 a0] 3 (0, 0)) := by
    rw [hW0]
    have := blk_new ((((w.alloc (.cells #[.int .i64 a1] 3 (0, 0))).alloc (.cells #[.int .i64 0, .int .i64 0] 23 (0, 0))).alloc (.cells #[.int .i64 0] 24 (0, 0))).drewN nd) (.cells #[.int .i64 a0] 3 (0, 0))
    have e : ((((w.alloc (.cells #[.int .i64 a1] 3 (0, 0))).alloc (.cells #[.int .i64 0, .int .i64 0] 23 (0, 0))).alloc (.cells #[.int .i64 0] 24 (0, 0))).drewN nd).heap.size = w.heap.size + 1 + 1 + 1 := by
     show (((w.alloc (.cells #[.int .i64 a1] 3 (0, 0))).alloc (.cells #[.int .i64 0, .int .i64 0] 23 (0, 0))).alloc (.cells #[.int .i64 0] 24 (0, 0))).heap.size = _
     simp
    rwa [e] at this
   have HB : Below w.heap.size w W0 := by rw [hW0]; exact below_alloc (pw_below_drewN (below_alloc (below_alloc (below_alloc (Below.refl _ w) _) _) _) _) _
   have hS : W0.heap.size = w.heap.size + 1 + 1 + 1 + 1 := by
    rw [hW0, World.size_alloc]
    show (((w.alloc (.cells #[.int .i64 a1] 3 (0, 0))).alloc (.cells #[.int .i64 0, .int .i64 0] 23 (0, 0))).alloc (.cells #[.int .i64 0] 24 (0, 0))).heap.size + 1 = _
    simp
   clear hW0
   refine range_enter rfl (by omega) (gf := 83) (lb := #[.pointer (some ⟨w.heap.size + 1 + 1 + 1, 0, none⟩)]) rfl trivial (enters_of Try.func83 (by kernel_rfl) rfl) ?_
   intro fn hfn W1 l D hD hl RR hRR hR hB1 hS1
   replace hRR := Aside0.mk hRR
   replace Bk := Aside0.mk (blk_below Bk hB1)
   replace B4 := Aside0.mk (blk_below B4 hB1)
   replace B5 := Aside0.mk (blk_below B5 hB1)
   replace Bn := Aside0.mk (blk_below Bn hB1)
   replace HB := Aside0.mk (below_step HB hB1)
   have hl' : Aside0 (l = w.heap.size + 1 + 1 + 1 + 1 + 1) := ⟨by omega⟩
   have hD' : Aside0 (D = w.heap.size + 1 + 1 + 1 + 1) := ⟨by omega⟩
   have hS1' : Aside0 (W1.heap.size = w.heap.size + 6) := ⟨by omega⟩
   clear hD hl hB1 hS hS1 W0
   replace hR := Aside0.mk hR
   refine callsIn_of_wp Try.func83 rfl trivial ?_ rfl
   simp only [Try.ntmps83, List.size_toArray, List.length_cons, List.length_nil, Nat.reduceAdd, Nat.reduceSub, Array.replicate_succ, Array.replicate_zero, List.push_toArray, List.append_toArray, List.nil_append, List.cons_append]
   have hcn := blk_cell Bn.out 0
   have hln := blk_lt Bn.out
   simp at hcn
   have hln1 : w.heap.size + 1 + 1 + 1 < W1.heap.size + 1 := by omega
   have hnn0 : ¬ w.heap.size + 1 + 1 + 1 = W1.heap.size := by omega
   have hnn1 : ¬ w.heap.size + 1 + 1 + 1 = W1.heap.size + 1 := by omega
   gi_wp2
   gi_region
   ·obtain ⟨W2, hW2⟩ : ∃ W2, W2 = ((W1.alloc (.cells #[.int .i64 0, .int .i64 1] 23 (0, 0))).alloc (.cells #[.int .i64 1, .int .i64 a0] 23 (0, 0))).drew := ⟨_, rfl⟩
    rw [← hW2]
    have F3 : W2.heap[W1.heap.size]? = some (.cells #[.int .i64 0, .int .i64 1] 23 (0, 0)) := by rw [hW2]; exact blk_drew (blk_alloc (blk_new W1 _) _)
    have F4 : W2.heap[W1.heap.size + 1]? = some (.cells #[.int .i64 1, .int .i64 a0] 23 (0, 0)) := by rw [hW2]; exact blk_drew (by have := blk_new (W1.alloc (.cells #[.int .i64 0, .int .i64 1] 23 (0, 0))) (.cells #[.int .i64 1, .int .i64 a0] 23 (0, 0)); rwa [World.size_alloc] at this)
    have hb2 : Below W1.heap.size W1 W2 := by rw [hW2]; exact below_drew1 (below_alloc (below_alloc (Below.refl _ _) _) _)
    obtain ⟨g3, hg3⟩ : ∃ g, g = W1.heap.size := ⟨_, rfl⟩
    obtain ⟨g4, hg4⟩ : ∃ g, g = W1.heap.size + 1 := ⟨_, rfl⟩
    rw [← hg4, ← hg3]
    rw [← hg3] at F3
    rw [← hg4] at F4
    have hN := hS1'.out
    have hne : Aside0 (g3 ≠ g4) := ⟨by omega⟩
    have hge3 : Aside0 (w.heap.size + 6 ≤ g3) := ⟨by omega⟩
    have hge4 : Aside0 (w.heap.size + 6 ≤ g4) := ⟨by omega⟩
    clear hg3 hg4 hN hW2 hcn hln hln1 hnn0 hnn1
    replace Bk := Aside0.mk (blk_below Bk.out hb2)
    replace B4 := Aside0.mk (blk_below B4.out hb2)
    replace B5 := Aside0.mk (blk_below B5.out hb2)
    replace Bn := Aside0.mk (blk_below Bn.out hb2)
    replace HB := Aside0.mk (below_step HB.out hb2)
    replace F3 := Aside0.mk F3
    replace F4 := Aside0.mk F4
    replace hR := Aside0.mk (rec_below hRR.out hR.out hb2)
    clear hb2 hS1' W1
    gi_wp2
    gi_loopg [5] k (fun kq v5 wr => ∃ (x0 x1 y0 y1 kk : Int), Aside0 (yard_Item.l0 kq a0 x0 x1 y0 y1 kk = some (r1, r2, r3)) ∧ Aside0 (kq ≤ k) ∧ Aside0 (wr.heap[w.heap.size]? = some (.cells #[.int .i64 kk] 3 (0, 0))) ∧ Aside0 (wr.heap[w.heap.size + 1]? = some (.cells #[.int .i64 0, .int .i64 0] 23 (0, 0))) ∧ Aside0 (wr.heap[w.heap.size + 1 + 1]? = some (.cells #[.int .i64 0] 24 (0, 0))) ∧ Aside0 (wr.heap[w.heap.size + 1 + 1 + 1]? = some (.cells #[.int .i64 a0] 3 (0, 0))) ∧ Aside0 (wr.heap[g3]? = some (.cells #[.int .i64 x0, .int .i64 x1] 23 (0, 0))) ∧ Aside0 (wr.heap[g4]? = some (.cells #[.int .i64 y0, .int .i64 y1] 23 (0, 0))) ∧ Aside0 (RR wr .ready none) ∧ Aside0 (Below w.heap.size w wr))
    case atStart => exact ⟨0, 1, 1, a0, a1, H', ⟨Nat.le_refl _⟩, Bk, B4, B5, Bn, F3, F4, hR, HB⟩
    case round =>
     clear H' Bk B4 B5 Bn F3 F4 hR HB
     obtain ⟨x0, x1, y0, y1, kk, HA, HK, Bk, B4, B5, Bn, F3, F4, hR, HB⟩ := hrel
     cases gk with
     | zero => exact absurd HA.out (by simp [yard_Item.l0])
     | succ k1 =>
      have H := HA.out
      clear HA
      simp only [yard_Item.l0] at H
      have hRec := (hRR.out _ _ _).1 hR.out
      have hy := run_yield (P := Try.prog) (args := #[.agg #[.int .i64 x0, .int .i64 x1]]) hRec.L rfl
      simp at hy
      have hcF3_0 := blk_cell F3.out 0
      have hcF3_1 := blk_cell F3.out 1
      simp at hcF3_0 hcF3_1
      replace hRec := Aside0.mk hRec
      gi_wp2
      have hlr := blk_lt hRec.out.L
      have hlD : D ≠ l := by have := hl'.out; have := hD'.out; omega
      obtain ⟨Wa, hWa⟩ : ∃ Wa, Wa = wr.alloc (.cells #[.int .i64 x0, .int .i64 x1] 23 (0, 0)) := ⟨_, rfl⟩
      have hba : Below wr.heap.size wr Wa := by rw [hWa]; exact below_alloc (Below.refl _ _) _
      have hRa := rec_below (fun _ _ _ => Iff.rfl) hRec.out hba
      obtain ⟨W3, hb3, hR3, hk3⟩ := rec_begin (P := Try.prog) hRa hlD
      have Ff : W3.heap[wr.heap.size]? = some (.cells #[.int .i64 x0, .int .i64 x1] 23 (0, 0)) := by rw [hk3.other _ (by omega), hWa]; exact blk_new _ _
      have HBa := hk3.below w.heap.size w (by have := hl'.out; omega) (below_step HB.out hba)
      replace Bk := Aside0.mk ((hk3.other _ (by have := hl'.out; omega)).trans (blk_below Bk.out hba))
      replace B4 := Aside0.mk ((hk3.other _ (by have := hl'.out; omega)).trans (blk_below B4.out hba))
      replace B5 := Aside0.mk ((hk3.other _ (by have := hl'.out; omega)).trans (blk_below B5.out hba))
      replace Bn := Aside0.mk ((hk3.other _ (by have := hl'.out; omega)).trans (blk_below Bn.out hba))
      replace F3 := Aside0.mk ((hk3.other _ (by have := hl'.out; have := hge3.out; omega)).trans (blk_below F3.out hba))
      replace F4 := Aside0.mk ((hk3.other _ (by have := hl'.out; have := hge4.out; omega)).trans (blk_below F4.out hba))
      replace Ff := Aside0.mk Ff
      replace HB := Aside0.mk HBa
      replace hR3 := Aside0.mk hR3
      have hlr' := Aside0.mk hlr
      have hlD' := Aside0.mk hlD
      have hS3 : Aside0 (W3.heap.size = wr.heap.size + 1) := ⟨by rw [hk3.size, hWa]; simp⟩
      refine roundIn_of_wpIn hfn ?_
      gi_wp2
      rw [← hWa]
      refine ⟨W3, hb3, ?_⟩
      clear hy hb3 hk3 HBa hRa hba hWa hRec hcF3_0 hcF3_1 hR hlr hlD
      have hck := blk_cell Bk.out 0
      have hfk := blk_frozen Bk.out 0
      have hcf_0 := blk_cell Ff.out 0
      have hcf_1 := blk_cell Ff.out 1
      have hc4_0 := blk_cell B4.out 0
      have hc4_1 := blk_cell B4.out 1
      have hf4_0 := blk_frozen B4.out 0
      have hf4_1 := blk_frozen B4.out 1
      have hc5 := blk_cell B5.out 0
      have hf5 := blk_frozen B5.out 0
      simp at hck hcf_0 hcf_1 hc4_0 hc4_1 hc5
      by_cases c2 : kk = 0
      ·rw [if_pos c2] at H
       simp only [Option.some.injEq, Prod.mk.injEq] at H
       obtain ⟨rfl, rfl, rfl⟩ := H
       have c2b : (kk == 0) = true := beq_iff_eq.mpr c2
       clear c2
       gi_wp2
       obtain ⟨W4, hW4⟩ : ∃ W4, W4 = (((W3.setCell ⟨w.heap.size + 1, 0, none⟩ (.int .i64 x0)).setCell ⟨w.heap.size + 1, 1, none⟩ (.int .i64 x1)).setCell ⟨w.heap.size + 1 + 1, 0, none⟩ (.int .i64 0)) := ⟨_, rfl⟩
       rw [← hW4]
       have e4 : ∀ q, q ≠ w.heap.size + 1 → q ≠ w.heap.size + 1 + 1 → W4.heap[q]? = W3.heap[q]? := fun q h1 h2 => by
        rw [hW4, Below.heap_setCell _ _ _ q h2, Below.heap_setCell _ _ _ q h1, Below.heap_setCell _ _ _ q h1]
       have R4 := rec_same hR3.out (e4 l (by have := hl'.out; omega) (by have := hl'.out; omega)) (e4 D (by have := hD'.out; omega) (by have := hD'.out; omega))
       have C4 : W4.heap[w.heap.size + 1]? = some (.cells #[.int .i64 x0, .int .i64 x1] 23 (0, 0)) := by rw [hW4]; exact blk_far (blk_put (cs := #[.int .i64 x0, .int .i64 0]) (blk_put (cs := #[.int .i64 0, .int .i64 0]) B4.out 0 _ rfl) 1 _ rfl) (by simp) _
       have C5 : W4.heap[w.heap.size + 1 + 1]? = some (.cells #[.int .i64 0] 24 (0, 0)) := by rw [hW4]; exact blk_put (cs := #[.int .i64 0]) (blk_far (blk_far B5.out (by simp) _) (by simp) _) 0 _ rfl
       have HB4 : Below w.heap.size w W4 := by rw [hW4]; exact below_set (below_set (below_set HB.out (by omega)) (by omega)) (by omega)
       clear hW4 e4 hck hfk hcf_0 hcf_1 hc4_0 hc4_1 hf4_0 hf4_1 hc5 hf5
       obtain ⟨W5, hend, R5, hk5⟩ := rec_end (P := Try.prog) (some .ret) R4 hlD'.out
       obtain ⟨W6, hov, hK6, hk6⟩ := rec_over (P := Try.prog) R5 hlD'.out (by decide)
       have D4 : W6.heap[w.heap.size + 1]? = some (.cells #[.int .i64 x0, .int .i64 x1] 23 (0, 0)) := ((hk6.other _ (by have := hl'.out; omega)).trans (hk5.other _ (by have := hl'.out; omega))).trans C4
       have D5 : W6.heap[w.heap.size + 1 + 1]? = some (.cells #[.int .i64 0] 24 (0, 0)) := ((hk6.other _ (by have := hl'.out; omega)).trans (hk5.other _ (by have := hl'.out; omega))).trans C5
       have HB6 : Below w.heap.size w W6 := hk6.below _ _ (by have := hl'.out; omega) (hk5.below _ _ (by have := hl'.out; omega) HB4)
       have D4' := Aside0.mk D4
       have D5' := Aside0.mk D5
       have HB6' := Aside0.mk HB6
       have hK6' := Aside0.mk hK6
       clear R4 C4 C5 HB4 R5 hk5 hk6 D4 D5 HB6 hK6
       refine ⟨_, W5, hend, ?_⟩
       gi_wp2
       go_end0
       refine ⟨some .ret, W6, hov, ?_⟩
       gi_wp2
       have E4 : (W6.putObj D (.deferred none)).heap[w.heap.size + 1]? = some (.cells #[.int .i64 x0, .int .i64 x1] 23 (0, 0)) := (World.putObj_heap_other (by have := hD'.out; omega)).trans D4'.out
       have E5 : (W6.putObj D (.deferred none)).heap[w.heap.size + 1 + 1]? = some (.cells #[.int .i64 0] 24 (0, 0)) := (World.putObj_heap_other (by have := hD'.out; omega)).trans D5'.out
       have E6 : Below w.heap.size w (W6.putObj D (.deferred none)) := (recKept_put hK6'.out _).below _ _ (by have := hD'.out; omega) HB6'.out
       have hc4_0 := blk_cell E4 0
       have hc4_1 := blk_cell E4 1
       have hc5 := blk_cell E5 0
       simp at hc4_0 hc4_1 hc5
       refine ⟨by simp, .inl ⟨_, _, rfl, run_takeDeferred hK6'.out, ?_⟩⟩
       refine ⟨.tuple #[.agg #[.int .i64 x0, .int .i64 x1], .int .i64 0], ?_, rfl, E6⟩
       simp [results, Try.f36, go_sem, hc4_0, hc4_1, hc5]
      ·rw [if_neg c2] at H
       have c2b : (kk == 0) = false := beq_eq_false_iff_ne.mpr c2
       clear c2
       have H' := Aside0.mk H
       clear H
       gi_wp2
       obtain ⟨W4, hW4⟩ : ∃ W4, W4 = W3.setCell ⟨w.heap.size, 0, none⟩ (.int .i64 (wrap64 (kk - 1))) := ⟨_, rfl⟩
       rw [← hW4]
       have e4 : ∀ q, q ≠ w.heap.size → W4.heap[q]? = W3.heap[q]? := fun q h1 => by
        rw [hW4, Below.heap_setCell _ _ _ q h1]
       have R4 := rec_same hR3.out (e4 l (by have := hl'.out; omega)) (e4 D (by have := hD'.out; omega))
       have Ck : W4.heap[w.heap.size]? = some (.cells #[.int .i64 (wrap64 (kk - 1))] 3 (0, 0)) := by rw [hW4]; exact blk_put (cs := #[.int .i64 kk]) Bk.out 0 _ rfl
       have C4 := (e4 _ (by omega)).trans B4.out
       have C5 := (e4 _ (by omega)).trans B5.out
       have Cn := (e4 _ (by omega)).trans Bn.out
       have C3f := (e4 g3 (by have := hge3.out; omega)).trans F3.out
       have C4f := (e4 g4 (by have := hge4.out; omega)).trans F4.out
       have HB4 : Below w.heap.size w W4 := by rw [hW4]; exact below_set HB.out (Nat.le_refl _)
       clear hW4 e4 hck hfk hcf_0 hcf_1 hc4_0 hc4_1 hf4_0 hf4_1 hc5 hf5
       obtain ⟨W5, hend, R5, hk5⟩ := rec_end (P := Try.prog) none R4 hlD'.out
       replace Bk := Aside0.mk ((hk5.other _ (by have := hl'.out; omega)).trans Ck)
       replace B4 := Aside0.mk ((hk5.other _ (by have := hl'.out; omega)).trans C4)
       replace B5 := Aside0.mk ((hk5.other _ (by have := hl'.out; omega)).trans C5)
       replace Bn := Aside0.mk ((hk5.other _ (by have := hl'.out; omega)).trans Cn)
       replace F3 := Aside0.mk ((hk5.other _ (by have := hl'.out; have := hge3.out; omega)).trans C3f)
       replace F4 := Aside0.mk ((hk5.other _ (by have := hl'.out; have := hge4.out; omega)).trans C4f)
       replace HB := Aside0.mk (hk5.below _ _ (by have := hl'.out; omega) HB4)
       replace R5 := Aside0.mk R5
       clear Ck C4 C5 Cn C3f C4f HB4 R4 hk5 Ff hR3
       have hc3_0 := blk_cell F3.out 0
       have hc3_1 := blk_cell F3.out 1
       have hf3_0 := blk_frozen F3.out 0
       have hf3_1 := blk_frozen F3.out 1
       have hcg_0 := blk_cell F4.out 0
       have hcg_1 := blk_cell F4.out 1
       have hfg_0 := blk_frozen F4.out 0
       have hfg_1 := blk_frozen F4.out 1
       have hcn := blk_cell Bn.out 0
       simp at hc3_0 hc3_1 hcg_0 hcg_1 hcn
       by_cases c3 : x0 < x1
       ·have H := H'.out
        clear H'
        rw [if_pos c3] at H
        have c3b : decide (x0 < x1) = true := decide_eq_true c3
        clear c3
        by_cases c4 : y1 = 0
        ·rw [if_pos c4] at H; simp at H
        rw [if_neg c4] at H
        have c4b : (y1 == 0) = false := beq_eq_false_iff_ne.mpr c4
        have H' := Aside0.mk H
        clear H
        have hnn := hne.out
        have hnn' := Ne.symm hne.out
        refine ⟨_, W5, hend, ?_⟩
        gi_wp2
        gi_region
        gi_wp2
        obtain ⟨W8, hW8⟩ : ∃ W8, W8 = (((((W5.setCell ⟨g3, 0, none⟩ (.int .i64 y0)).setCell ⟨g3, 1, none⟩ (.int .i64 y1)).setCell ⟨g4, 0, none⟩ (.int .i64 (wrap64 (wrap64 (wrap64 (Int.tdiv (wrap64 (a0 + x1)) y1) * y0) - x0)))).setCell ⟨g4, 1, none⟩ (.int .i64 (wrap64 (wrap64 (wrap64 (Int.tdiv (wrap64 (a0 + x1)) y1) * y1) - x1)))).drew) := ⟨_, rfl⟩
        rw [← hW8]
        have e8 : ∀ q, q ≠ g3 → q ≠ g4 → W8.heap[q]? = W5.heap[q]? := fun q h3 h4 => by
         rw [hW8, heap_drew, Below.heap_setCell _ _ _ q h4, Below.heap_setCell _ _ _ q h4, Below.heap_setCell _ _ _ q h3, Below.heap_setCell _ _ _ q h3]
        have G3 : W8.heap[g3]? = some (.cells #[.int .i64 y0, .int .i64 y1] 23 (0, 0)) := by
         rw [hW8, heap_drew, Below.heap_setCell _ _ _ g3 hne.out, Below.heap_setCell _ _ _ g3 hne.out]
         exact blk_put (cs := #[.int .i64 y0, .int .i64 x1]) (blk_put (cs := #[.int .i64 x0, .int .i64 x1]) F3.out 0 _ rfl) 1 _ rfl
        have G4 : W8.heap[g4]? = some (.cells #[.int .i64 (wrap64 (wrap64 (wrap64 (Int.tdiv (wrap64 (a0 + x1)) y1) * y0) - x0)), .int .i64 (wrap64 (wrap64 (wrap64 (Int.tdiv (wrap64 (a0 + x1)) y1) * y1) - x1))] 23 (0, 0)) := by
         rw [hW8, heap_drew]
         exact blk_put (cs := #[.int .i64 (wrap64 (wrap64 (wrap64 (Int.tdiv (wrap64 (a0 + x1)) y1) * y0) - x0)), .int .i64 y1]) (blk_put (cs := #[.int .i64 y0, .int .i64 y1]) (blk_far (blk_far F4.out (Ne.symm hne.out) _) (Ne.symm hne.out) _) 0 _ rfl) 1 _ rfl
        have HB8 : Below w.heap.size w W8 := by
         rw [hW8]
         exact below_drew1 (below_set (below_set (below_set (below_set HB.out (by have := hge3.out; omega)) (by have := hge3.out; omega)) (by have := hge4.out; omega)) (by have := hge4.out; omega))
        have R8 := (hRR.out _ _ _).2 (rec_far R5.out e8 (by have := hl'.out; have := hge3.out; omega) (by have := hl'.out; have := hge4.out; omega) (by have := hD'.out; have := hge3.out; omega) (by have := hD'.out; have := hge4.out; omega))
        have K8 := (e8 _ (by have := hge3.out; omega) (by have := hge4.out; omega)).trans Bk.out
        have M8 := (e8 _ (by have := hge3.out; omega) (by have := hge4.out; omega)).trans B4.out
        have N8 := (e8 _ (by have := hge3.out; omega) (by have := hge4.out; omega)).trans B5.out
        have P8 := (e8 _ (by have := hge3.out; omega) (by have := hge4.out; omega)).trans Bn.out
        clear hW8 e8
        gi_roundg k1
        case measure => have := HK.out; omega
        case rel => exact ⟨y0, y1, (wrap64 (wrap64 (wrap64 (Int.tdiv (wrap64 (a0 + x1)) y1) * y0) - x0)), (wrap64 (wrap64 (wrap64 (Int.tdiv (wrap64 (a0 + x1)) y1) * y1) - x1)), wrap64 (kk - 1), H', ⟨by have := HK.out; omega⟩, ⟨K8⟩, ⟨M8⟩, ⟨N8⟩, ⟨P8⟩, ⟨G3⟩, ⟨G4⟩, ⟨R8⟩, ⟨HB8⟩⟩
       ·have H := H'.out
        clear H'
        rw [if_neg c3] at H
        have c3b : decide (x0 < x1) = false := decide_eq_false c3
        clear c3
        simp only [Option.some.injEq, Prod.mk.injEq] at H
        obtain ⟨rfl, rfl, rfl⟩ := H
        obtain ⟨W6, hov, hK6, hk6⟩ := rec_over (P := Try.prog) R5.out hlD'.out (by decide)
        have D4 := Aside0.mk ((hk6.other _ (by have := hl'.out; omega)).trans B4.out)
        have D5 := Aside0.mk ((hk6.other _ (by have := hl'.out; omega)).trans B5.out)
        have HB6 := Aside0.mk (hk6.below _ _ (by have := hl'.out; omega) HB.out)
        have hK6' := Aside0.mk hK6
        clear hk6 hK6
        have hd4_0 := blk_cell D4.out 0
        have hd4_1 := blk_cell D4.out 1
        have hd4f_0 := blk_frozen D4.out 0
        have hd4f_1 := blk_frozen D4.out 1
        have hd5 := blk_cell D5.out 0
        have hd5f := blk_frozen D5.out 0
        simp at hd4_0 hd4_1 hd5
        refine ⟨_, W5, hend, ?_⟩
        gi_wp2
        go_end0
        refine ⟨none, W6, hov, ?_⟩
        gi_wp2
        obtain ⟨W7, hW7⟩ : ∃ W7, W7 = (((W6.setCell ⟨w.heap.size + 1, 0, none⟩ (.int .i64 0)).setCell ⟨w.heap.size + 1, 1, none⟩ (.int .i64 0)).setCell ⟨w.heap.size + 1 + 1, 0, none⟩ (.int .i64 2)) := ⟨_, rfl⟩
        rw [← hW7]
        have D4' : Aside0 (W7.heap[w.heap.size + 1]? = some (.cells #[.int .i64 0, .int .i64 0] 23 (0, 0))) := ⟨by rw [hW7]; exact blk_far (blk_put (cs := #[.int .i64 0, .int .i64 0]) (blk_put (cs := #[.int .i64 0, .int .i64 0]) D4.out 0 _ rfl) 1 _ rfl) (by simp) _⟩
        have D5' : Aside0 (W7.heap[w.heap.size + 1 + 1]? = some (.cells #[.int .i64 2] 24 (0, 0))) := ⟨by rw [hW7]; exact blk_put (cs := #[.int .i64 0]) (blk_far (blk_far D5.out (by simp) _) (by simp) _) 0 _ rfl⟩
        have HB6' : Aside0 (Below w.heap.size w W7) := ⟨by rw [hW7]; exact below_set (below_set (below_set HB6.out (by omega)) (by omega)) (by omega)⟩
        have hK7' : Aside0 (W7.heap[D]? = some (.deferred (some []))) := ⟨by rw [hW7, Below.heap_setCell _ _ _ D (by have := hD'.out; simp; omega), Below.heap_setCell _ _ _ D (by have := hD'.out; simp; omega), Below.heap_setCell _ _ _ D (by have := hD'.out; simp; omega)]; exact hK6'.out⟩
        clear hW7 hd4_0 hd4_1 hd4f_0 hd4f_1 hd5 hd5f hov hend
        have E4 : (W7.putObj D (.deferred none)).heap[w.heap.size + 1]? = some (.cells #[.int .i64 0, .int .i64 0] 23 (0, 0)) := (World.putObj_heap_other (by have := hD'.out; omega)).trans D4'.out
        have E5 : (W7.putObj D (.deferred none)).heap[w.heap.size + 1 + 1]? = some (.cells #[.int .i64 2] 24 (0, 0)) := (World.putObj_heap_other (by have := hD'.out; omega)).trans D5'.out
        have E6 : Below w.heap.size w (W7.putObj D (.deferred none)) := (recKept_put hK7'.out _).below _ _ (by have := hD'.out; omega) HB6'.out
        have hc4_0 := blk_cell E4 0
        have hc4_1 := blk_cell E4 1
        have hc5 := blk_cell E5 0
        simp at hc4_0 hc4_1 hc5
        refine ⟨by simp, .inl ⟨_, _, rfl, run_takeDeferred hK7'.out, ?_⟩⟩
        refine ⟨.tuple #[.agg #[.int .i64 0, .int .i64 0], .int .i64 2], ?_, rfl, E6⟩
        simp [results, Try.f36, go_sem, hc4_0, hc4_1, hc5]
   ·obtain ⟨W2, hW2⟩ : ∃ W2, W2 = ((W1.alloc (.cells #[.int .i64 1, .int .i64 a0] 23 (0, 0))).alloc (.cells #[.int .i64 0, .int .i64 1] 23 (0, 0))).drew := ⟨_, rfl⟩
    rw [← hW2]
    have F3 : W2.heap[W1.heap.size + 1]? = some (.cells #[.int .i64 0, .int .i64 1] 23 (0, 0)) := by rw [hW2]; exact blk_drew (by have := blk_new (W1.alloc (.cells #[.int .i64 1, .int .i64 a0] 23 (0, 0))) (.cells #[.int .i64 0, .int .i64 1] 23 (0, 0)); rwa [World.size_alloc] at this)
    have F4 : W2.heap[W1.heap.size]? = some (.cells #[.int .i64 1, .int .i64 a0] 23 (0, 0)) := by rw [hW2]; exact blk_drew (blk_alloc (blk_new W1 _) _)
    have hb2 : Below W1.heap.size W1 W2 := by rw [hW2]; exact below_drew1 (below_alloc (below_alloc (Below.refl _ _) _) _)
    obtain ⟨g3, hg3⟩ : ∃ g, g = W1.heap.size + 1 := ⟨_, rfl⟩
    obtain ⟨g4, hg4⟩ : ∃ g, g = W1.heap.size := ⟨_, rfl⟩
    rw [← hg3, ← hg4]
    rw [← hg3] at F3
    rw [← hg4] at F4
    have hN := hS1'.out
    have hne : Aside0 (g3 ≠ g4) := ⟨by omega⟩
    have hge3 : Aside0 (w.heap.size + 6 ≤ g3) := ⟨by omega⟩
    have hge4 : Aside0 (w.heap.size + 6 ≤ g4) := ⟨by omega⟩
    clear hg3 hg4 hN hW2 hcn hln hln1 hnn0 hnn1
    replace Bk := Aside0.mk (blk_below Bk.out hb2)
    replace B4 := Aside0.mk (blk_below B4.out hb2)
    replace B5 := Aside0.mk (blk_below B5.out hb2)
    replace Bn := Aside0.mk (blk_below Bn.out hb2)
    replace HB := Aside0.mk (below_step HB.out hb2)
    replace F3 := Aside0.mk F3
    replace F4 := Aside0.mk F4
    replace hR := Aside0.mk (rec_below hRR.out hR.out hb2)
    clear hb2 hS1' W1
    gi_wp2
    gi_loopg [5] k (fun kq v5 wr => ∃ (x0 x1 y0 y1 kk : Int), Aside0 (yard_Item.l0 kq a0 x0 x1 y0 y1 kk = some (r1, r2, r3)) ∧ Aside0 (kq ≤ k) ∧ Aside0 (wr.heap[w.heap.size]? = some (.cells #[.int .i64 kk] 3 (0, 0))) ∧ Aside0 (wr.heap[w.heap.size + 1]? = some (.cells #[.int .i64 0, .int .i64 0] 23 (0, 0))) ∧ Aside0 (wr.heap[w.heap.size + 1 + 1]? = some (.cells #[.int .i64 0] 24 (0, 0))) ∧ Aside0 (wr.heap[w.heap.size + 1 + 1 + 1]? = some (.cells #[.int .i64 a0] 3 (0, 0))) ∧ Aside0 (wr.heap[g3]? = some (.cells #[.int .i64 x0, .int .i64 x1] 23 (0, 0))) ∧ Aside0 (wr.heap[g4]? = some (.cells #[.int .i64 y0, .int .i64 y1] 23 (0, 0))) ∧ Aside0 (RR wr .ready none) ∧ Aside0 (Below w.heap.size w wr))
    case atStart => exact ⟨0, 1, 1, a0, a1, H', ⟨Nat.le_refl _⟩, Bk, B4, B5, Bn, F3, F4, hR, HB⟩
    case round =>
     clear H' Bk B4 B5 Bn F3 F4 hR HB
     obtain ⟨x0, x1, y0, y1, kk, HA, HK, Bk, B4, B5, Bn, F3, F4, hR, HB⟩ := hrel
     cases gk with
     | zero => exact absurd HA.out (by simp [yard_Item.l0])
     | succ k1 =>
      have H := HA.out
      clear HA
      simp only [yard_Item.l0] at H
      have hRec := (hRR.out _ _ _).1 hR.out
      have hy := run_yield (P := Try.prog) (args := #[.agg #[.int .i64 x0, .int .i64 x1]]) hRec.L rfl
      simp at hy
      have hcF3_0 := blk_cell F3.out 0
      have hcF3_1 := blk_cell F3.out 1
      simp at hcF3_0 hcF3_1
      replace hRec := Aside0.mk hRec
      gi_wp2
      have hlr := blk_lt hRec.out.L
      have hlD : D ≠ l := by have := hl'.out; have := hD'.out; omega
      obtain ⟨Wa, hWa⟩ : ∃ Wa, Wa = wr.alloc (.cells #[.int .i64 x0, .int .i64 x1] 23 (0, 0)) := ⟨_, rfl⟩
      have hba : Below wr.heap.size wr Wa := by rw [hWa]; exact below_alloc (Below.refl _ _) _
      have hRa := rec_below (fun _ _ _ => Iff.rfl) hRec.out hba
      obtain ⟨W3, hb3, hR3, hk3⟩ := rec_begin (P := Try.prog) hRa hlD
      have Ff : W3.heap[wr.heap.size]? = some (.cells #[.int .i64 x0, .int .i64 x1] 23 (0, 0)) := by rw [hk3.other _ (by omega), hWa]; exact blk_new _ _
      have HBa := hk3.below w.heap.size w (by have := hl'.out; omega) (below_step HB.out hba)
      replace Bk := Aside0.mk ((hk3.other _ (by have := hl'.out; omega)).trans (blk_below Bk.out hba))
      replace B4 := Aside0.mk ((hk3.other _ (by have := hl'.out; omega)).trans (blk_below B4.out hba))
      replace B5 := Aside0.mk ((hk3.other _ (by have := hl'.out; omega)).trans (blk_below B5.out hba))
      replace Bn := Aside0.mk ((hk3.other _ (by have := hl'.out; omega)).trans (blk_below Bn.out hba))
      replace F3 := Aside0.mk ((hk3.other _ (by have := hl'.out; have := hge3.out; omega)).trans (blk_below F3.out hba))
      replace F4 := Aside0.mk ((hk3.other _ (by have := hl'.out; have := hge4.out; omega)).trans (blk_below F4.out hba))
      replace Ff := Aside0.mk Ff
      replace HB := Aside0.mk HBa
      replace hR3 := Aside0.mk hR3
      have hlr' := Aside0.mk hlr
      have hlD' := Aside0.mk hlD
      have hS3 : Aside0 (W3.heap.size = wr.heap.size + 1) := ⟨by rw [hk3.size, hWa]; simp⟩
      refine roundIn_of_wpIn hfn ?_
      gi_wp2
      rw [← hWa]
      refine ⟨W3, hb3, ?_⟩
      clear hy hb3 hk3 HBa hRa hba hWa hRec hcF3_0 hcF3_1 hR hlr hlD
      have hck := blk_cell Bk.out 0
      have hfk := blk_frozen Bk.out 0
      have hcf_0 := blk_cell Ff.out 0
      have hcf_1 := blk_cell Ff.out 1
      have hc4_0 := blk_cell B4.out 0
      have hc4_1 := blk_cell B4.out 1
      have hf4_0 := blk_frozen B4.out 0
      have hf4_1 := blk_frozen B4.out 1
      have hc5 := blk_cell B5.out 0
      have hf5 := blk_frozen B5.out 0
      simp at hck hcf_0 hcf_1 hc4_0 hc4_1 hc5
      by_cases c2 : kk = 0
      ·rw [if_pos c2] at H
       simp only [Option.some.injEq, Prod.mk.injEq] at H
       obtain ⟨rfl, rfl, rfl⟩ := H
       have c2b : (kk == 0) = true := beq_iff_eq.mpr c2
       clear c2
       gi_wp2
       obtain ⟨W4, hW4⟩ : ∃ W4, W4 = (((W3.setCell ⟨w.heap.size + 1, 0, none⟩ (.int .i64 x0)).setCell ⟨w.heap.size + 1, 1, none⟩ (.int .i64 x1)).setCell ⟨w.heap.size + 1 + 1, 0, none⟩ (.int .i64 0)) := ⟨_, rfl⟩
       rw [← hW4]
       have e4 : ∀ q, q ≠ w.heap.size + 1 → q ≠ w.heap.size + 1 + 1 → W4.heap[q]? = W3.heap[q]? := fun q h1 h2 => by
        rw [hW4, Below.heap_setCell _ _ _ q h2, Below.heap_setCell _ _ _ q h1, Below.heap_setCell _ _ _ q h1]
       have R4 := rec_same hR3.out (e4 l (by have := hl'.out; omega) (by have := hl'.out; omega)) (e4 D (by have := hD'.out; omega) (by have := hD'.out; omega))
       have C4 : W4.heap[w.heap.size + 1]? = some (.cells #[.int .i64 x0, .int .i64 x1] 23 (0, 0)) := by rw [hW4]; exact blk_far (blk_put (cs := #[.int .i64 x0, .int .i64 0]) (blk_put (cs := #[.int .i64 0, .int .i64 0]) B4.out 0 _ rfl) 1 _ rfl) (by simp) _
       have C5 : W4.heap[w.heap.size + 1 + 1]? = some (.cells #[.int .i64 0] 24 (0, 0)) := by rw [hW4]; exact blk_put (cs := #[.int .i64 0]) (blk_far (blk_far B5.out (by simp) _) (by simp) _) 0 _ rfl
       have HB4 : Below w.heap.size w W4 := by rw [hW4]; exact below_set (below_set (below_set HB.out (by omega)) (by omega)) (by omega)
       clear hW4 e4 hck hfk hcf_0 hcf_1 hc4_0 hc4_1 hf4_0 hf4_1 hc5 hf5
       obtain ⟨W5, hend, R5, hk5⟩ := rec_end (P := Try.prog) (some .ret) R4 hlD'.out
       obtain ⟨W6, hov, hK6, hk6⟩ := rec_over (P := Try.prog) R5 hlD'.out (by decide)
       have D4 : W6.heap[w.heap.size + 1]? = some (.cells #[.int .i64 x0, .int .i64 x1] 23 (0, 0)) := ((hk6.other _ (by have := hl'.out; omega)).trans (hk5.other _ (by have := hl'.out; omega))).trans C4
       have D5 : W6.heap[w.heap.size + 1 + 1]? = some (.cells #[.int .i64 0] 24 (0, 0)) := ((hk6.other _ (by have := hl'.out; omega)).trans (hk5.other _ (by have := hl'.out; omega))).trans C5
       have HB6 : Below w.heap.size w W6 := hk6.below _ _ (by have := hl'.out; omega) (hk5.below _ _ (by have := hl'.out; omega) HB4)
       have D4' := Aside0.mk D4
       have D5' := Aside0.mk D5
       have HB6' := Aside0.mk HB6
       have hK6' := Aside0.mk hK6
       clear R4 C4 C5 HB4 R5 hk5 hk6 D4 D5 HB6 hK6
       refine ⟨_, W5, hend, ?_⟩
       gi_wp2
       go_end0
       refine ⟨some .ret, W6, hov, ?_⟩
       gi_wp2
       have E4 : (W6.putObj D (.deferred none)).heap[w.heap.size + 1]? = some (.cells #[.int .i64 x0, .int .i64 x1] 23 (0, 0)) := (World.putObj_heap_other (by have := hD'.out; omega)).trans D4'.out
       have E5 : (W6.putObj D (.deferred none)).heap[w.heap.size + 1 + 1]? = some (.cells #[.int .i64 0] 24 (0, 0)) := (World.putObj_heap_other (by have := hD'.out; omega)).trans D5'.out
       have E6 : Below w.heap.size w (W6.putObj D (.deferred none)) := (recKept_put hK6'.out _).below _ _ (by have := hD'.out; omega) HB6'.out
       have hc4_0 := blk_cell E4 0
       have hc4_1 := blk_cell E4 1
       have hc5 := blk_cell E5 0
       simp at hc4_0 hc4_1 hc5
       refine ⟨by simp, .inl ⟨_, _, rfl, run_takeDeferred hK6'.out, ?_⟩⟩
       refine ⟨.tuple #[.agg #[.int .i64 x0, .int .i64 x1], .int .i64 0], ?_, rfl, E6⟩
       simp [results, Try.f36, go_sem, hc4_0, hc4_1, hc5]
      ·rw [if_neg c2] at H
       have c2b : (kk == 0) = false := beq_eq_false_iff_ne.mpr c2
       clear c2
       have H' := Aside0.mk H
       clear H
       gi_wp2
       obtain ⟨W4, hW4⟩ : ∃ W4, W4 = W3.setCell ⟨w.heap.size, 0, none⟩ (.int .i64 (wrap64 (kk - 1))) := ⟨_, rfl⟩
       rw [← hW4]
       have e4 : ∀ q, q ≠ w.heap.size → W4.heap[q]? = W3.heap[q]? := fun q h1 => by
        rw [hW4, Below.heap_setCell _ _ _ q h1]
       have R4 := rec_same hR3.out (e4 l (by have := hl'.out; omega)) (e4 D (by have := hD'.out; omega))
       have Ck : W4.heap[w.heap.size]? = some (.cells #[.int .i64 (wrap64 (kk - 1))] 3 (0, 0)) := by rw [hW4]; exact blk_put (cs := #[.int .i64 kk]) Bk.out 0 _ rfl
       have C4 := (e4 _ (by omega)).trans B4.out
       have C5 := (e4 _ (by omega)).trans B5.out
       have Cn := (e4 _ (by omega)).trans Bn.out
       have C3f := (e4 g3 (by have := hge3.out; omega)).trans F3.out
       have C4f := (e4 g4 (by have := hge4.out; omega)).trans F4.out
       have HB4 : Below w.heap.size w W4 := by rw [hW4]; exact below_set HB.out (Nat.le_refl _)
       clear hW4 e4 hck hfk hcf_0 hcf_1 hc4_0 hc4_1 hf4_0 hf4_1 hc5 hf5
       obtain ⟨W5, hend, R5, hk5⟩ := rec_end (P := Try.prog) none R4 hlD'.out
       replace Bk := Aside0.mk ((hk5.other _ (by have := hl'.out; omega)).trans Ck)
       replace B4 := Aside0.mk ((hk5.other _ (by have := hl'.out; omega)).trans C4)
       replace B5 := Aside0.mk ((hk5.other _ (by have := hl'.out; omega)).trans C5)
       replace Bn := Aside0.mk ((hk5.other _ (by have := hl'.out; omega)).trans Cn)
       replace F3 := Aside0.mk ((hk5.other _ (by have := hl'.out; have := hge3.out; omega)).trans C3f)
       replace F4 := Aside0.mk ((hk5.other _ (by have := hl'.out; have := hge4.out; omega)).trans C4f)
       replace HB := Aside0.mk (hk5.below _ _ (by have := hl'.out; omega) HB4)
       replace R5 := Aside0.mk R5
       clear Ck C4 C5 Cn C3f C4f HB4 R4 hk5 Ff hR3
       have hc3_0 := blk_cell F3.out 0
       have hc3_1 := blk_cell F3.out 1
       have hf3_0 := blk_frozen F3.out 0
       have hf3_1 := blk_frozen F3.out 1
       have hcg_0 := blk_cell F4.out 0
       have hcg_1 := blk_cell F4.out 1
       have hfg_0 := blk_frozen F4.out 0
       have hfg_1 := blk_frozen F4.out 1
       have hcn := blk_cell Bn.out 0
       simp at hc3_0 hc3_1 hcg_0 hcg_1 hcn
       by_cases c3 : x0 < x1
       ·have H := H'.out
        clear H'
        rw [if_pos c3] at H
        have c3b : decide (x0 < x1) = true := decide_eq_true c3
        clear c3
        by_cases c4 : y1 = 0
        ·rw [if_pos c4] at H; simp at H
        rw [if_neg c4] at H
        have c4b : (y1 == 0) = false := beq_eq_false_iff_ne.mpr c4
        have H' := Aside0.mk H
        clear H
        have hnn := hne.out
        have hnn' := Ne.symm hne.out
        refine ⟨_, W5, hend, ?_⟩
        gi_wp2
        gi_region
        gi_wp2
        obtain ⟨W8, hW8⟩ : ∃ W8, W8 = (((((W5.setCell ⟨g3, 0, none⟩ (.int .i64 y0)).setCell ⟨g3, 1, none⟩ (.int .i64 y1)).setCell ⟨g4, 0, none⟩ (.int .i64 (wrap64 (wrap64 (wrap64 (Int.tdiv (wrap64 (a0 + x1)) y1) * y0) - x0)))).setCell ⟨g4, 1, none⟩ (.int .i64 (wrap64 (wrap64 (wrap64 (Int.tdiv (wrap64 (a0 + x1)) y1) * y1) - x1)))).drew) := ⟨_, rfl⟩
        rw [← hW8]
        have e8 : ∀ q, q ≠ g3 → q ≠ g4 → W8.heap[q]? = W5.heap[q]? := fun q h3 h4 => by
         rw [hW8, heap_drew, Below.heap_setCell _ _ _ q h4, Below.heap_setCell _ _ _ q h4, Below.heap_setCell _ _ _ q h3, Below.heap_setCell _ _ _ q h3]
        have G3 : W8.heap[g3]? = some (.cells #[.int .i64 y0, .int .i64 y1] 23 (0, 0)) := by
         rw [hW8, heap_drew, Below.heap_setCell _ _ _ g3 hne.out, Below.heap_setCell _ _ _ g3 hne.out]
         exact blk_put (cs := #[.int .i64 y0, .int .i64 x1]) (blk_put (cs := #[.int .i64 x0, .int .i64 x1]) F3.out 0 _ rfl) 1 _ rfl
        have G4 : W8.heap[g4]? = some (.cells #[.int .i64 (wrap64 (wrap64 (wrap64 (Int.tdiv (wrap64 (a0 + x1)) y1) * y0) - x0)), .int .i64 (wrap64 (wrap64 (wrap64 (Int.tdiv (wrap64 (a0 + x1)) y1) * y1) - x1))] 23 (0, 0)) := by
         rw [hW8, heap_drew]
         exact blk_put (cs := #[.int .i64 (wrap64 (wrap64 (wrap64 (Int.tdiv (wrap64 (a0 + x1)) y1) * y0) - x0)), .int .i64 y1]) (blk_put (cs := #[.int .i64 y0, .int .i64 y1]) (blk_far (blk_far F4.out (Ne.symm hne.out) _) (Ne.symm hne.out) _) 0 _ rfl) 1 _ rfl
        have HB8 : Below w.heap.size w W8 := by
         rw [hW8]
         exact below_drew1 (below_set (below_set (below_set (below_set HB.out (by have := hge3.out; omega)) (by have := hge3.out; omega)) (by have := hge4.out; omega)) (by have := hge4.out; omega))
        have R8 := (hRR.out _ _ _).2 (rec_far R5.out e8 (by have := hl'.out; have := hge3.out; omega) (by have := hl'.out; have := hge4.out; omega) (by have := hD'.out; have := hge3.out; omega) (by have := hD'.out; have := hge4.out; omega))
        have K8 := (e8 _ (by have := hge3.out; omega) (by have := hge4.out; omega)).trans Bk.out
        have M8 := (e8 _ (by have := hge3.out; omega) (by have := hge4.out; omega)).trans B4.out
        have N8 := (e8 _ (by have := hge3.out; omega) (by have := hge4.out; omega)).trans B5.out
        have P8 := (e8 _ (by have := hge3.out; omega) (by have := hge4.out; omega)).trans Bn.out
        clear hW8 e8
        gi_roundg k1
        case measure => have := HK.out; omega
        case rel => exact ⟨y0, y1, (wrap64 (wrap64 (wrap64 (Int.tdiv (wrap64 (a0 + x1)) y1) * y0) - x0)), (wrap64 (wrap64 (wrap64 (Int.tdiv (wrap64 (a0 + x1)) y1) * y1) - x1)), wrap64 (kk - 1), H', ⟨by have := HK.out; omega⟩, ⟨K8⟩, ⟨M8⟩, ⟨N8⟩, ⟨P8⟩, ⟨G3⟩, ⟨G4⟩, ⟨R8⟩, ⟨HB8⟩⟩
       ·have H := H'.out
        clear H'
        rw [if_neg c3] at H
        have c3b : decide (x0 < x1) = false := decide_eq_false c3
        clear c3
        simp only [Option.some.injEq, Prod.mk.injEq] at H
        obtain ⟨rfl, rfl, rfl⟩ := H
        obtain ⟨W6, hov, hK6, hk6⟩ := rec_over (P := Try.prog) R5.out hlD'.out (by decide)
        have D4 := Aside0.mk ((hk6.other _ (by have := hl'.out; omega)).trans B4.out)
        have D5 := Aside0.mk ((hk6.other _ (by have := hl'.out; omega)).trans B5.out)
        have HB6 := Aside0.mk (hk6.below _ _ (by have := hl'.out; omega) HB.out)
        have hK6' := Aside0.mk hK6
        clear hk6 hK6
        have hd4_0 := blk_cell D4.out 0
        have hd4_1 := blk_cell D4.out 1
        have hd4f_0 := blk_frozen D4.out 0
        have hd4f_1 := blk_frozen D4.out 1
        have hd5 := blk_cell D5.out 0
        have hd5f := blk_frozen D5.out 0
        simp at hd4_0 hd4_1 hd5
        refine ⟨_, W5, hend, ?_⟩
        gi_wp2
        go_end0
        refine ⟨none, W6, hov, ?_⟩
        gi_wp2
        obtain ⟨W7, hW7⟩ : ∃ W7, W7 = (((W6.setCell ⟨w.heap.size + 1, 0, none⟩ (.int .i64 0)).setCell ⟨w.heap.size + 1, 1, none⟩ (.int .i64 0)).setCell ⟨w.heap.size + 1 + 1, 0, none⟩ (.int .i64 2)) := ⟨_, rfl⟩
        rw [← hW7]
        have D4' : Aside0 (W7.heap[w.heap.size + 1]? = some (.cells #[.int .i64 0, .int .i64 0] 23 (0, 0))) := ⟨by rw [hW7]; exact blk_far (blk_put (cs := #[.int .i64 0, .int .i64 0]) (blk_put (cs := #[.int .i64 0, .int .i64 0]) D4.out 0 _ rfl) 1 _ rfl) (by simp) _⟩
        have D5' : Aside0 (W7.heap[w.heap.size + 1 + 1]? = some (.cells #[.int .i64 2] 24 (0, 0))) := ⟨by rw [hW7]; exact blk_put (cs := #[.int .i64 0]) (blk_far (blk_far D5.out (by simp) _) (by simp) _) 0 _ rfl⟩
        have HB6' : Aside0 (Below w.heap.size w W7) := ⟨by rw [hW7]; exact below_set (below_set (below_set HB6.out (by omega)) (by omega)) (by omega)⟩
        have hK7' : Aside0 (W7.heap[D]? = some (.deferred (some []))) := ⟨by rw [hW7, Below.heap_setCell _ _ _ D (by have := hD'.out; simp; omega), Below.heap_setCell _ _ _ D (by have := hD'.out; simp; omega), Below.heap_setCell _ _ _ D (by have := hD'.out; simp; omega)]; exact hK6'.out⟩
        clear hW7 hd4_0 hd4_1 hd4f_0 hd4f_1 hd5 hd5f hov hend
        have E4 : (W7.putObj D (.deferred none)).heap[w.heap.size + 1]? = some (.cells #[.int .i64 0, .int .i64 0] 23 (0, 0)) := (World.putObj_heap_other (by have := hD'.out; omega)).trans D4'.out
        have E5 : (W7.putObj D (.deferred none)).heap[w.heap.size + 1 + 1]? = some (.cells #[.int .i64 2] 24 (0, 0)) := (World.putObj_heap_other (by have := hD'.out; omega)).trans D5'.out
        have E6 : Below w.heap.size w (W7.putObj D (.deferred none)) := (recKept_put hK7'.out _).below _ _ (by have := hD'.out; omega) HB6'.out
        have hc4_0 := blk_cell E4 0
        have hc4_1 := blk_cell E4 1
        have hc5 := blk_cell E5 0
        simp at hc4_0 hc4_1 hc5
        refine ⟨by simp, .inl ⟨_, _, rfl, run_takeDeferred hK7'.out, ?_⟩⟩
        refine ⟨.tuple #[.agg #[.int .i64 0, .int .i64 0], .int .i64 2], ?_, rfl, E6⟩
        simp [results, Try.f36, go_sem, hc4_0, hc4_1, hc5]
end Go.Proofs.Ythjodhmkmjabbaa.PY
