/- The walks of yard.whole, pair.middle, turns and Path: what each computes, as a Lean function. -/
import Derived.Test.YthjodhmkmjabbaaPYx2
import Derived.Test.YthjodhmkmjabbaaPYx1
import Derived.Deep.RegionWith
import Derived.MapKept
import Derived.Maps.Own
namespace Go.Proofs.Ythjodhmkmjabbaa.PY
open Go.RowKit Go.Proofs.YthjodhmkmjabbaaW.PrintWords Go.Proofs.YthjodhmkmjabbaaW.PrintLast Go.Proofs.YthjodhmkmjabbaaW.PrintMore
theorem upd_run {w : World} {r : Nat} {es : Array MapEntry} {clock : Nat} (hb : w.heap[r]? = some (.map es clock)) (n : Int) (val : Value)
    (hf : Instr.findNow (.int .u8) (.int .u8 n) es.toList 0 = some none) :
    (Instr.mapUpdate 82 (.map (some r)) (.int .u8 n) val).run Try.prog w = .ok () { w with heap := w.heap.setIfInBounds r (.map (es.push { key := .int .u8 n, val := val, born := clock }) (clock + 1)) } := by
  have hc : (Instr.checkKey false 10000 5 (.int .u8 n)).run Try.prog w = .ok () w := MapKept.run_checkKey (k := .int .u8 n) Try.underlying5 (by simp [MapKept.IsKey]) false 9999
  simp [Instr.mapUpdate, run_underlying Try.underlying82, MapKept.run_getObj_map hb, hc, MapKept.run_findKey Try.underlying5 hf, MapKept.run_setObj_map _ hb, Result.andThen]

theorem alloc_set (w : World) (o o' : Obj) : ({ w.alloc o with heap := (w.alloc o).heap.setIfInBounds w.heap.size o' } : World) = w.alloc o' := by
  have e : (w.alloc o).heap = w.heap.push o := rfl
  have e2 : (w.alloc o').heap = w.heap.push o' := rfl
  have : (w.heap.push o).setIfInBounds w.heap.size o' = w.heap.push o' := by
    apply Array.ext_getElem?
    intro i
    simp only [Array.getElem?_setIfInBounds, Array.getElem?_push, Array.size_push]
    (repeat' split) <;> first | rfl | omega | (subst_vars; simp at *)
  show ({ w.alloc o with heap := (w.alloc o).heap.setIfInBounds w.heap.size o' } : World) = _
  rw [e, this]
  rfl

def turnsEs : Array MapEntry := #[{ key := .int .u8 76, val := .int .i64 1, born := 0 }, { key := .int .u8 82, val := .int .i64 0, born := 1 }]
def turnOf (c : Int) : Int := if c = 76 then 1 else 0
def isTurn (c : Int) : Bool := c == 76 || c == 82

theorem turns_run1 (w : World) : (Instr.mapUpdate 82 (.map (some w.heap.size)) (.int .u8 76) (.int .i64 1)).run Try.prog (w.alloc (.map #[] 0)) = .ok () (w.alloc (.map #[{ key := .int .u8 76, val := .int .i64 1, born := 0 }] 1)) := by
  rw [upd_run ((MapKept.heap_alloc w _).1) 76 (.int .i64 1) rfl, alloc_set]; rfl
theorem turns_run2 (w : World) : (Instr.mapUpdate 82 (.map (some w.heap.size)) (.int .u8 82) (.int .i64 0)).run Try.prog (w.alloc (.map #[{ key := .int .u8 76, val := .int .i64 1, born := 0 }] 1)) = .ok () (w.alloc (.map turnsEs 2)) := by
  rw [upd_run ((MapKept.heap_alloc w _).1) 82 (.int .i64 0) rfl, alloc_set]; rfl

set_option maxHeartbeats 400000 in
theorem turns.calls (w : World) :
    Calls Try.prog 64 #[] w fun e w' => e = .returned (.map (some w.heap.size)) ∧ w' = w.alloc (.map turnsEs 2) := by
  have hmm := @run_makeMap Try.prog
  have h1 := turns_run1 w
  have h2 := turns_run2 w
  go_enter Try.func64, Try.ntmps64
  go_wp2
  go_ret
  exact ⟨rfl, rfl⟩

theorem look_run {w : World} {r : Nat} (hb : w.heap[r]? = some (.map turnsEs 2)) (c : Int) :
    (Instr.lookup 82 (.map (some r)) (.int .u8 c) false).run Try.prog w = .ok (.int .i64 (turnOf c)) w := by
  have hc : (Instr.checkKey false 10000 5 (.int .u8 c)).run Try.prog w = .ok () w := MapKept.run_checkKey (k := .int .u8 c) Try.underlying5 (by simp [MapKept.IsKey]) false 9999
  have hz : ∀ w, (zeroValue 3).run Try.prog w = .ok (.int .i64 0) w := fun w => by kernel_rfl
  have hf : Instr.findNow (.int .u8) (.int .u8 c) turnsEs.toList 0 = some (if c = 76 then some (0, .int .i64 1) else if c = 82 then some (1, .int .i64 0) else none) := by
    by_cases e1 : c = 76
    · subst e1; rfl
    · by_cases e2 : c = 82
      · subst e2; rfl
      · simp [turnsEs, Instr.findNow, Instr.sameNow, e1, e2, beq_eq_false_iff_ne.2 e1, beq_eq_false_iff_ne.2 e2]
  have hfk := MapKept.run_findKey (P := Try.prog) (w := w) Try.underlying5 hf
  have hem : turnsEs.isEmpty = false := rfl
  simp only [Instr.lookup, Sem.run_bind, run_underlying Try.underlying82, Result.andThen, MapKept.run_getObj_map hb, Sem.run_pure, hem, hc, hfk]
  by_cases e1 : c = 76
  · simp [e1, turnOf]
  · by_cases e2 : c = 82
    · simp [e2, turnOf]
    · simp [e1, e2, turnOf, hz]
theorem look_run_ok {w : World} {r : Nat} (hb : w.heap[r]? = some (.map turnsEs 2)) (c : Int) :
    (Instr.lookup 82 (.map (some r)) (.int .u8 c) true).run Try.prog w = .ok (.tuple #[.int .i64 (turnOf c), .bool (isTurn c)]) w := by
  have hc : (Instr.checkKey false 10000 5 (.int .u8 c)).run Try.prog w = .ok () w := MapKept.run_checkKey (k := .int .u8 c) Try.underlying5 (by simp [MapKept.IsKey]) false 9999
  have hz : ∀ w, (zeroValue 3).run Try.prog w = .ok (.int .i64 0) w := fun w => by kernel_rfl
  have hf : Instr.findNow (.int .u8) (.int .u8 c) turnsEs.toList 0 = some (if c = 76 then some (0, .int .i64 1) else if c = 82 then some (1, .int .i64 0) else none) := by
    by_cases e1 : c = 76
    · subst e1; rfl
    · by_cases e2 : c = 82
      · subst e2; rfl
      · simp [turnsEs, Instr.findNow, Instr.sameNow, e1, e2, beq_eq_false_iff_ne.2 e1, beq_eq_false_iff_ne.2 e2]
  have hfk := MapKept.run_findKey (P := Try.prog) (w := w) Try.underlying5 hf
  have hem : turnsEs.isEmpty = false := rfl
  simp only [Instr.lookup, Sem.run_bind, run_underlying Try.underlying82, Result.andThen, MapKept.run_getObj_map hb, Sem.run_pure, hem, hc, hfk]
  by_cases e1 : c = 76
  · simp [e1, turnOf, isTurn]
  · by_cases e2 : c = 82
    · simp [e2, turnOf, isTurn]
    · simp [e1, e2, turnOf, isTurn, Result.andThen, hz]
theorem whole.calls (w : World) :
    Calls Try.prog 61 #[] w fun e w' => e = .returned (.agg #[.int .i64 0, .int .i64 1, .int .i64 1, .int .i64 1]) ∧ Below w.heap.size w w' := by
  go_enter Try.func61, Try.ntmps61
  go_wp2
  exact bodyPost_ret (v := .agg #[.int .i64 0, .int .i64 1, .int .i64 1, .int .i64 1]) (by simp [results, Try.results61, go_sem]) rfl ⟨rfl, ((Below.refl _ _).alloc (Nat.le_refl _) _)⟩
theorem middle.calls (a b c d : Int) (w : World) :
    Calls Try.prog 62 #[.agg #[.int .i64 a, .int .i64 b, .int .i64 c, .int .i64 d]] w fun e w' => e = .returned (.agg #[.int .i64 (wrap64 (a + c)), .int .i64 (wrap64 (b + d))]) ∧ Below w.heap.size w w' := by
  go_enter Try.func62, Try.ntmps62
  go_wp2
  exact bodyPost_ret (v := .agg #[.int .i64 (wrap64 (a + c)), .int .i64 (wrap64 (b + d))]) (by simp [results, Try.results62, go_sem]) rfl ⟨rfl, ((((Below.refl _ _).alloc (Nat.le_refl _) _).alloc (by simp) _))⟩
attribute [local go_sem high] eqA23
attribute [local go_sem] max2_int min2_int max_two min_two max_three min_three max_four min_four
set_option linter.unusedVariables false
set_option linter.unusedSimpArgs false
theorem look_fact (W : World) (c : Int) : (Instr.lookup 82 (.map (some W.heap.size)) (.int .u8 c) false).run Try.prog (W.alloc (.map turnsEs 2)) = .ok (.int .i64 (turnOf c)) (W.alloc (.map turnsEs 2)) := look_run (MapKept.heap_alloc W _).1 c
theorem look_fact_d (W : World) (c : Int) : (Instr.lookup 82 (.map (some W.heap.size)) (.int .u8 c) false).run Try.prog (W.alloc (.map turnsEs 2)).drew = .ok (.int .i64 (turnOf c)) (W.alloc (.map turnsEs 2)).drew := look_run (blk_drew (MapKept.heap_alloc W _).1) c
def yard_Path.l0 : Nat → Int → Int → Int → Int → List Int → Int → Int → Option (ByteArray × Int)
  | 0, _, _, _, _, _, _, _ => none
  | k + 1, x0, x1, x2, x3, x4, a0, a1 =>
    if ((wrap64 (x0 + x2)) == a0 && ((wrap64 (x1 + x3)) == a1)) = true then some (strOfNums x4, 0)
    else (yard_less.f a0 a1 (wrap64 (x0 + x2)) (wrap64 (x1 + x3))).bind fun t =>
      if t = true then
        (if (x4.length : Int) + 1 > 200 then some ((⟨#[]⟩ : ByteArray), 5) else yard_Path.l0 k x0 x1 (wrap64 (x0 + x2)) (wrap64 (x1 + x3)) (x4 ++ [76]) a0 a1)
      else
        (if (x4.length : Int) + 1 > 200 then some ((⟨#[]⟩ : ByteArray), 5) else yard_Path.l0 k (wrap64 (x0 + x2)) (wrap64 (x1 + x3)) x2 x3 (x4 ++ [82]) a0 a1)
def yard_Path.f (k : Nat) (a0 a1 : Int) : Option (ByteArray × Int) :=
  (yard_isFrac.f k a0 a1).bind fun t => if t = true then (if a1 = 1 then some ((⟨#[]⟩ : ByteArray), 2) else yard_Path.l0 k 0 1 1 1 [] a0 a1) else some ((⟨#[]⟩ : ByteArray), 2)
theorem yard_Path.mono_l : ∀ k, (∀ y0 y1 y2 y3 y4 y5 y6, LeO (yard_Path.l0 k y0 y1 y2 y3 y4 y5 y6) (yard_Path.l0 (k + 1) y0 y1 y2 y3 y4 y5 y6))
  | 0 => fun _ _ _ _ _ _ _ r h => by simp [yard_Path.l0] at h
  | k + 1 => by
    have ih0 := yard_Path.mono_l k
    · intro y0 y1 y2 y3 y4 y5 y6
      unfold yard_Path.l0
      repeat' first
      | (with_reducible exact ih0 _ _ _ _ _ _ _)
      | (with_reducible exact LeO.refl _)
      | (with_reducible exact LeO.none _)
      | (with_reducible refine LeO.ite ?_ ?_)
      | (with_reducible refine LeO.bind ?_ (fun _ => ?_))
theorem yard_Path.mono : ∀ a0 a1 k, LeO (yard_Path.f k a0 a1) (yard_Path.f (k + 1) a0 a1) := by
  intro a0 a1 k
  have ih0 := yard_Path.mono_l k
  unfold yard_Path.f
  repeat' first
      | (with_reducible exact ih0 _ _ _ _ _ _ _)
      | (with_reducible exact yard_isFrac.mono _ _ _)
      | (with_reducible exact LeO.refl _)
      | (with_reducible exact LeO.none _)
      | (with_reducible refine LeO.ite ?_ ?_)
      | (with_reducible refine LeO.bind ?_ (fun _ => ?_))
set_option maxHeartbeats 4000000 in
set_option maxRecDepth 100000 in
theorem yard_Path.calls (k : Nat) (a0_0 : Int) (a0_1 : Int) (r1 : ByteArray) (r2 : Int) (w : World) (h : yard_Path.f k a0_0 a0_1 = some (r1, r2)) :
    Calls Try.prog 17 #[.agg #[.int .i64 a0_0, .int .i64 a0_1]] w fun e w' => e = .returned (.tuple #[.string r1, .int .i64 r2]) ∧ Below w.heap.size w w' := by
  have hu23 := Try.underlying23
  have hu78 := Try.underlying78
  unfold yard_Path.f at h
  obtain ⟨t, A1, h⟩ := Option.bind_eq_some_iff.mp h
  have A1 := Aside0.mk A1
  cases t with
  | false =>
    rw [if_neg (by decide)] at h
    simp only [Option.some.injEq, Prod.mk.injEq] at h
    obtain ⟨rfl, rfl⟩ := h
    go_enter Try.func17, Try.ntmps17
    go_wp2_with (first | (go_at_call 60; (with_reducible refine (yard_isFrac.calls k a0_0 a0_1 false _ A1.out).mono ?_); rintro e w1 ⟨rfl, hb1⟩))
    go_ret2
    exact ⟨rfl, below_step (below_alloc (Below.refl _ w) _) hb1⟩
  | true =>
    rw [if_pos rfl] at h
    by_cases c1 : a0_1 = 1
    · rw [if_pos c1] at h
      simp only [Option.some.injEq, Prod.mk.injEq] at h
      obtain ⟨rfl, rfl⟩ := h
      have c1b : (a0_1 == 1) = true := beq_iff_eq.mpr c1
      clear c1
      go_enter Try.func17, Try.ntmps17
      go_wp2_with (first | (go_at_call 60; (with_reducible refine (yard_isFrac.calls k a0_0 a0_1 true _ A1.out).mono ?_); rintro e w1 ⟨rfl, hb1⟩; have hcc := fun b o h => hb1.cell (p := ⟨b, o, none⟩) h))
      go_ret2
      exact ⟨rfl, below_step (below_alloc (Below.refl _ w) _) hb1⟩
    · rw [if_neg c1] at h
      have H' := Aside0.mk h
      clear h
      have c1b : (a0_1 == 1) = false := beq_eq_false_iff_ne.mpr c1
      clear c1
      go_enter Try.func17, Try.ntmps17
      go_wp2_with (first | (go_at_call 60; (with_reducible refine (yard_isFrac.calls k a0_0 a0_1 true _ A1.out).mono ?_); rintro e w1 ⟨rfl, hb1⟩; have hcc := fun b o h => hb1.cell (p := ⟨b, o, none⟩) h; have hff := fun b o h => hb1.frozen (p := ⟨b, o, none⟩) h ) | (go_at_call 61; (with_reducible refine (whole.calls _).mono ?_); rintro e w2 ⟨rfl, hb2⟩) | (go_at_call 62; (with_reducible refine (middle.calls _ _ _ _ _).mono ?_); rintro e w3 ⟨rfl, hb3⟩))
      obtain ⟨g4, hg4⟩ : ∃ g, g = w2.heap.size := ⟨_, rfl⟩
      rw [← hg4]
      have HG4 := Aside0.mk hg4
      have HGE4 : Aside0 (w.heap.size ≤ g4) := ⟨by have h1 := hb1.size; have h2 := hb2.size; simp at h1; omega⟩
      clear hg4
      go_loopg [5, 6] k (fun kq v5 v6 wr => ∃ (x0 x1 x2 x3 : Int) (x4 : List Int) (g6 : Nat), v6 = .pointer (some ⟨g6, 0, none⟩) ∧ Aside0 (yard_Path.l0 kq x0 x1 x2 x3 x4 a0_0 a0_1 = some (r1, r2)) ∧ Aside0 (kq ≤ k) ∧ Aside0 (x4.length ≤ 200) ∧ Aside0 (w.heap.size ≠ g6) ∧ Aside0 (Kd.R (Kd.int .u8) 5 wr w.heap.size (fun _ => True) v5 x4) ∧ Aside0 (wr.heap[w.heap.size]? = some (.cells #[.int .i64 a0_0, .int .i64 a0_1] 23 (0, 0))) ∧ Aside0 (wr.heap[g4]? = some (.cells #[.int .i64 x0, .int .i64 x1, .int .i64 x2, .int .i64 x3] 78 (0, 0))) ∧ Aside0 (wr.heap[g6]? = some (.cells #[.int .i64 (wrap64 (x0 + x2)), .int .i64 (wrap64 (x1 + x3))] 23 (0, 0))) ∧ Aside0 (w.heap.size ≤ g6) ∧ Aside0 (Below w.heap.size w wr))
      case atStart => exact ⟨0, 1, 1, 1, [], w3.heap.size, rfl, H', ⟨Nat.le_refl _⟩, ⟨by simp⟩, ⟨by have h1 := hb1.size; have h2 := hb2.size; have h3 := hb3.size; simp at h1 h3; omega⟩, ⟨Kd.R_nil _ _ _ _ _⟩, ⟨blk_alloc (blk_below (blk_alloc (blk_below (blk_below (blk_new w _) hb1) hb2) _) hb3) _⟩, ⟨by rw [HG4.out]; exact blk_alloc (blk_below (blk_new w2 _) hb3) _⟩, ⟨by simpa using blk_new w3 _⟩, ⟨by have h1 := hb1.size; have h2 := hb2.size; have h3 := hb3.size; simp at h1 h3; omega⟩, ⟨below_alloc (below_step (below_alloc (below_step (below_step (below_alloc (Below.refl _ w) _) hb1) hb2) _) hb3) _⟩⟩
      case round =>
        clear H'
        obtain ⟨x0, x1, x2, x3, x4, g6, rfl, HA, HK, HL, HN, HO, B1, B4, B6, HG6, HB⟩ := hrel
        cases gk with
        | zero => exact absurd HA.out (by simp [yard_Path.l0])
        | succ k1 =>
          have H := HA.out
          clear HA
          simp only [yard_Path.l0] at H
          have hc1_0 := blk_cell B1.out 0
          have hc1_1 := blk_cell B1.out 1
          have hc6_0 := blk_cell B6.out 0
          have hc6_1 := blk_cell B6.out 1
          simp at hc1_0 hc1_1 hc6_0 hc6_1
          by_cases c3 : ((wrap64 (x0 + x2)) == a0_0 && ((wrap64 (x1 + x3)) == a0_1)) = true
          · rw [if_pos c3] at H
            simp only [Option.some.injEq, Prod.mk.injEq] at H
            obtain ⟨rfl, rfl⟩ := H
            have hcv := own_string (P := Try.prog) Try.underlying80 Try.underlying5 Try.underlying9 (Kd.own_of_R HO.out)
            go_wp2_with fail
            go_ret2
            exact ⟨by first | rfl | (simp; done), by exact HB.out⟩
          · rw [if_neg c3] at H
            obtain ⟨t, A3, H⟩ := Option.bind_eq_some_iff.mp H
            have A3 := Aside0.mk A3
            have c3b : ((wrap64 (x0 + x2)) == a0_0 && ((wrap64 (x1 + x3)) == a0_1)) = false := by simpa using c3
            clear c3
            cases t with
            | true =>
              rw [if_pos rfl] at H
              have H' := Aside0.mk H
              clear H
              have hlk := fun W => look_fact_d W 76
              have htl : turnOf 76 = 1 := rfl
              have HE14 : w.heap.size ≠ g4 := blk_ne B1.out B4.out (by decide)
              have HE64 : g6 ≠ g4 := blk_ne B6.out B4.out (by decide)
              have HE14 := Aside0.mk HE14
              have HE64 := Aside0.mk HE64
              go_wp2_with (first | (go_at_call 63; (with_reducible refine (yard_less.calls a0_0 a0_1 (wrap64 (x0 + x2)) (wrap64 (x1 + x3)) true _ A3.out).mono ?_); rintro e w4 ⟨rfl, hb4⟩; have n1 := Aside0.mk (blk_below B1.out hb4); have n4 := Aside0.mk (blk_below B4.out hb4); have n6 := Aside0.mk (blk_below B6.out hb4); have no := Aside0.mk (Kd.R_below HO.out hb4); have nb := Aside0.mk (below_step HB.out hb4); clear hc1_0 hc1_1 hc6_0 hc6_1 B1 B4 B6 HO HB; have B1 := n1; have B4 := n4; have B6 := n6; have HO := no; have HB := nb; clear n1 n4 n6 no nb hb4; have hc6_0 := blk_cell B6.out 0; have hc6_1 := blk_cell B6.out 1; have hl6 := blk_lt B6.out; have hl4 := blk_lt B4.out; have hc4_0 := blk_cell B4.out 0; have hc4_1 := blk_cell B4.out 1; have hc4_2 := blk_cell B4.out 2; have hc4_3 := blk_cell B4.out 3; obtain ⟨Ao, co, eo⟩ := Kd.R_slice HO.out; subst eo; have hf4_0 := blk_frozen B4.out 0; have hf4_1 := blk_frozen B4.out 1; have hf4_2 := blk_frozen B4.out 2; have hf4_3 := blk_frozen B4.out 3; simp at hc6_0 hc6_1 hc4_0 hc4_1 hc4_2 hc4_3))
              go_region_with (go_at_call 64; (with_reducible refine (turns.calls _).mono ?_); rintro e w5 ⟨rfl, rfl⟩)
              all_goals
                obtain ⟨ws, hws⟩ : ∃ ws, ws = (((w4.setCell ⟨g4, 2, none⟩ (.int .i64 (wrap64 (x0 + x2)))).setCell ⟨g4, 3, none⟩ (.int .i64 (wrap64 (x1 + x3)))).alloc (.map turnsEs 2)).drew := ⟨_, rfl⟩
                rw [← hws]
                have B1s : ws.heap[w.heap.size]? = some (.cells #[.int .i64 a0_0, .int .i64 a0_1] 23 (0, 0)) := by rw [hws]; exact blk_drew (blk_alloc (blk_far (blk_far B1.out HE14.out _) HE14.out _) _)
                have B4s : ws.heap[g4]? = some (.cells #[.int .i64 x0, .int .i64 x1, .int .i64 (wrap64 (x0 + x2)), .int .i64 (wrap64 (x1 + x3))] 78 (0, 0)) := by rw [hws]; exact blk_drew (blk_alloc (blk_put (cs := #[.int .i64 x0, .int .i64 x1, .int .i64 (wrap64 (x0 + x2)), .int .i64 x3]) (blk_put (cs := #[.int .i64 x0, .int .i64 x1, .int .i64 x2, .int .i64 x3]) B4.out 2 _ rfl) 3 _ rfl) _)
                have B6s : ws.heap[g6]? = some (.cells #[.int .i64 (wrap64 (x0 + x2)), .int .i64 (wrap64 (x1 + x3))] 23 (0, 0)) := by rw [hws]; exact blk_drew (blk_alloc (blk_far (blk_far B6.out HE64.out _) HE64.out _) _)
                have HOs : Kd.R (Kd.int .u8) 5 ws w.heap.size (fun _ => True) (.slice Ao x4.length co) x4 := by rw [hws]; exact Kd.R_drew (Kd.R_alloc (Kd.R_mono (Kd.R_far (Kd.R_far (Kd.R_types HO.out B4.out (by decide)) (fun _ hk => hk.2) _) (fun _ hk => hk.2) _) (fun _ h_ => h_.1)) _)
                have HBs : Below w.heap.size w ws := by rw [hws]; exact below_drew1 (below_alloc (below_set (below_set HB.out HGE4.out) HGE4.out) _)
                have B1s := Aside0.mk B1s
                have B4s := Aside0.mk B4s
                have B6s := Aside0.mk B6s
                have HOs := Aside0.mk HOs
                have HBs := Aside0.mk HBs
                clear hws hc6_0 hc6_1 hc4_0 hc4_1 hc4_2 hc4_3 hf4_0 hf4_1 hf4_2 hf4_3 hl4 hl6 B1 B4 B6 HO HB hlk
                by_cases c5 : (x4.length : Int) + 1 > 200
                · have H := H'.out
                  clear H'
                  rw [if_pos c5] at H
                  simp only [Option.some.injEq, Prod.mk.injEq] at H
                  obtain ⟨rfl, rfl⟩ := H
                  have c5b : decide (200 < (x4.length : Int) + 1) = true := decide_eq_true c5
                  have c5c : (200 < (x4.length : Int) + 1) := c5
                  have c5d : 200 ≤ x4.length := by omega
                  go_wp2_with (at_builtin; refine Kd.R_append (Kd.int .u8) (w0 := w) w.heap.size rfl (.tmp 32) (.tmp 34) 80 5 (.int .u8 0) 1 rfl Try.underlying80 info5 rfl (by decide) (by omega) (.slice Ao x4.length co) x4 76 [.int .u8 76] (fun _ => True) (fun _ => False) rfl rfl ?aP (fun _ hk => hk.elim) ?aF ?aO ?aB ?aS ?aL ?_; (case aP => exact rfl); (case aF => exact (fun _ _ => trivial)); (case aO => exact HOs.out); (case aB => exact HBs.out); (case aS => exact HBs.out.size); (case aL => have := HL.out; omega); intro v5 w6 ho hb hg hat; have B1 := Aside0.mk (blk_grown B1s.out hg (Kd.R_ne HOs.out B1s.out (by decide))); have B4 := Aside0.mk (blk_grown B4s.out hg (Kd.R_ne HOs.out B4s.out (by decide))); have B6 := Aside0.mk (blk_grown B6s.out hg (Kd.R_ne HOs.out B6s.out (by decide))); have HO := Aside0.mk ho; have HB := Aside0.mk hb; clear ho hb hg hat HOs HBs B1s B4s B6s; obtain ⟨An, cn, en⟩ := Kd.R_slice HO.out; subst en; have hc4_0 := blk_cell B4.out 0; have hc4_1 := blk_cell B4.out 1; have hc4_2 := blk_cell B4.out 2; have hc4_3 := blk_cell B4.out 3; have hc6_0 := blk_cell B6.out 0; have hc6_1 := blk_cell B6.out 1; have hl4 := blk_lt B4.out; have hl6 := blk_lt B6.out; simp at hc6_0 hc6_1 hc4_0 hc4_1 hc4_2 hc4_3)
                  go_ret2
                  exact ⟨by first | rfl | (simp; done), by exact HB.out⟩
                · have H := H'.out
                  clear H'
                  rw [if_neg c5] at H
                  have c5b : decide (200 < (x4.length : Int) + 1) = false := decide_eq_false c5
                  have c5c : ¬ (200 < (x4.length : Int) + 1) := c5
                  have c5d : x4.length < 200 := by omega
                  have H' := Aside0.mk H
                  clear H
                  go_wp2_with (first | (at_builtin; refine Kd.R_append (Kd.int .u8) (w0 := w) w.heap.size rfl (.tmp 32) (.tmp 34) 80 5 (.int .u8 0) 1 rfl Try.underlying80 info5 rfl (by decide) (by omega) (.slice Ao x4.length co) x4 76 [.int .u8 76] (fun _ => True) (fun _ => False) rfl rfl ?aP (fun _ hk => hk.elim) ?aF ?aO ?aB ?aS ?aL ?_; (case aP => exact rfl); (case aF => exact (fun _ _ => trivial)); (case aO => exact HOs.out); (case aB => exact HBs.out); (case aS => exact HBs.out.size); (case aL => have := HL.out; omega); intro v5 w6 ho hb hg hat; have B1 := Aside0.mk (blk_grown B1s.out hg (Kd.R_ne HOs.out B1s.out (by decide))); have B4 := Aside0.mk (blk_grown B4s.out hg (Kd.R_ne HOs.out B4s.out (by decide))); have B6 := Aside0.mk (blk_grown B6s.out hg (Kd.R_ne HOs.out B6s.out (by decide))); have HO := Aside0.mk ho; have HB := Aside0.mk hb; clear ho hb hg hat HOs HBs B1s B4s B6s; obtain ⟨An, cn, en⟩ := Kd.R_slice HO.out; subst en; have hc4_0 := blk_cell B4.out 0; have hc4_1 := blk_cell B4.out 1; have hc4_2 := blk_cell B4.out 2; have hc4_3 := blk_cell B4.out 3; have hc6_0 := blk_cell B6.out 0; have hc6_1 := blk_cell B6.out 1; have hl4 := blk_lt B4.out; have hl6 := blk_lt B6.out; simp at hc6_0 hc6_1 hc4_0 hc4_1 hc4_2 hc4_3) | (go_at_call 62; (with_reducible refine (middle.calls _ _ _ _ _).mono ?_); rintro e w7 ⟨rfl, hb7⟩; have N1 := Aside0.mk (Nat.ne_of_lt (blk_lt B1.out)); have N4 := Aside0.mk (Nat.ne_of_lt (blk_lt B4.out)); have GE := Aside0.mk HB.out.size; have C1 := Aside0.mk (blk_below (blk_alloc B1.out _) hb7); have C4 := Aside0.mk (blk_below (blk_alloc B4.out _) hb7); have C6 := Aside0.mk (blk_below (blk_new w6 _) hb7); have C6b := Aside0.mk (blk_below (blk_alloc B6.out _) hb7); have CO := Aside0.mk (Kd.R_below (Kd.R_alloc HO.out _) hb7); have CB := Aside0.mk (below_step (below_alloc HB.out _) hb7); clear hc6_0 hc6_1 hc4_0 hc4_1 hc4_2 hc4_3 hl4 hl6 B1 B4 B6 HO HB hb7; have hd0 := blk_frozen C6.out 0; have hd1 := blk_frozen C6.out 1; have he0 := blk_cell C6.out 0; have he1 := blk_cell C6.out 1; have hlt := blk_lt C6.out; simp at he0 he1))
                  go_roundg k1
                  case measure => have := HK.out; omega
                  case rel => exact ⟨x0, x1, (wrap64 (x0 + x2)), (wrap64 (x1 + x3)), (x4 ++ [76]), _, rfl, H', ⟨by have := HK.out; omega⟩, ⟨by simp; omega⟩, N1, ⟨by rw [show x4.length + 1 = (x4 ++ [76]).length from (by simp)]; exact Kd.R_mono (Kd.R_far (Kd.R_far (Kd.R_types CO.out C6.out (by decide)) (fun _ hk => hk.2) _) (fun _ hk => hk.2) _) (fun _ h_ => h_.1)⟩, ⟨blk_far (blk_far C1.out N1.out _) N1.out _⟩, ⟨blk_far (blk_far C4.out N4.out _) N4.out _⟩, ⟨blk_put (cs := #[.int .i64 (wrap64 (x0 + (wrap64 (x0 + x2)))), .int .i64 (wrap64 (x1 + x3))]) (blk_put (cs := #[.int .i64 (wrap64 (x0 + x2)), .int .i64 (wrap64 (x1 + x3))]) C6.out 0 _ rfl) 1 _ rfl⟩, GE, ⟨below_set (below_set CB.out GE.out) GE.out⟩⟩
            | false =>
              rw [if_neg (by decide)] at H
              have H' := Aside0.mk H
              clear H
              have hlk := fun W => look_fact_d W 82
              have htl : turnOf 82 = 0 := rfl
              have HE14 : w.heap.size ≠ g4 := blk_ne B1.out B4.out (by decide)
              have HE64 : g6 ≠ g4 := blk_ne B6.out B4.out (by decide)
              have HE14 := Aside0.mk HE14
              have HE64 := Aside0.mk HE64
              go_wp2_with (first | (go_at_call 63; (with_reducible refine (yard_less.calls a0_0 a0_1 (wrap64 (x0 + x2)) (wrap64 (x1 + x3)) false _ A3.out).mono ?_); rintro e w4 ⟨rfl, hb4⟩; have n1 := Aside0.mk (blk_below B1.out hb4); have n4 := Aside0.mk (blk_below B4.out hb4); have n6 := Aside0.mk (blk_below B6.out hb4); have no := Aside0.mk (Kd.R_below HO.out hb4); have nb := Aside0.mk (below_step HB.out hb4); clear hc1_0 hc1_1 hc6_0 hc6_1 B1 B4 B6 HO HB; have B1 := n1; have B4 := n4; have B6 := n6; have HO := no; have HB := nb; clear n1 n4 n6 no nb hb4; have hc6_0 := blk_cell B6.out 0; have hc6_1 := blk_cell B6.out 1; have hl6 := blk_lt B6.out; have hl4 := blk_lt B4.out; have hc4_0 := blk_cell B4.out 0; have hc4_1 := blk_cell B4.out 1; have hc4_2 := blk_cell B4.out 2; have hc4_3 := blk_cell B4.out 3; obtain ⟨Ao, co, eo⟩ := Kd.R_slice HO.out; subst eo; have hf4_0 := blk_frozen B4.out 0; have hf4_1 := blk_frozen B4.out 1; have hf4_2 := blk_frozen B4.out 2; have hf4_3 := blk_frozen B4.out 3; simp at hc6_0 hc6_1 hc4_0 hc4_1 hc4_2 hc4_3))
              go_region_with (go_at_call 64; (with_reducible refine (turns.calls _).mono ?_); rintro e w5 ⟨rfl, rfl⟩)
              all_goals
                obtain ⟨ws, hws⟩ : ∃ ws, ws = (((w4.setCell ⟨g4, 0, none⟩ (.int .i64 (wrap64 (x0 + x2)))).setCell ⟨g4, 1, none⟩ (.int .i64 (wrap64 (x1 + x3)))).alloc (.map turnsEs 2)).drew := ⟨_, rfl⟩
                rw [← hws]
                have B1s : ws.heap[w.heap.size]? = some (.cells #[.int .i64 a0_0, .int .i64 a0_1] 23 (0, 0)) := by rw [hws]; exact blk_drew (blk_alloc (blk_far (blk_far B1.out HE14.out _) HE14.out _) _)
                have B4s : ws.heap[g4]? = some (.cells #[.int .i64 (wrap64 (x0 + x2)), .int .i64 (wrap64 (x1 + x3)), .int .i64 x2, .int .i64 x3] 78 (0, 0)) := by rw [hws]; exact blk_drew (blk_alloc (blk_put (cs := #[.int .i64 (wrap64 (x0 + x2)), .int .i64 x1, .int .i64 x2, .int .i64 x3]) (blk_put (cs := #[.int .i64 x0, .int .i64 x1, .int .i64 x2, .int .i64 x3]) B4.out 0 _ rfl) 1 _ rfl) _)
                have B6s : ws.heap[g6]? = some (.cells #[.int .i64 (wrap64 (x0 + x2)), .int .i64 (wrap64 (x1 + x3))] 23 (0, 0)) := by rw [hws]; exact blk_drew (blk_alloc (blk_far (blk_far B6.out HE64.out _) HE64.out _) _)
                have HOs : Kd.R (Kd.int .u8) 5 ws w.heap.size (fun _ => True) (.slice Ao x4.length co) x4 := by rw [hws]; exact Kd.R_drew (Kd.R_alloc (Kd.R_mono (Kd.R_far (Kd.R_far (Kd.R_types HO.out B4.out (by decide)) (fun _ hk => hk.2) _) (fun _ hk => hk.2) _) (fun _ h_ => h_.1)) _)
                have HBs : Below w.heap.size w ws := by rw [hws]; exact below_drew1 (below_alloc (below_set (below_set HB.out HGE4.out) HGE4.out) _)
                have B1s := Aside0.mk B1s
                have B4s := Aside0.mk B4s
                have B6s := Aside0.mk B6s
                have HOs := Aside0.mk HOs
                have HBs := Aside0.mk HBs
                clear hws hc6_0 hc6_1 hc4_0 hc4_1 hc4_2 hc4_3 hf4_0 hf4_1 hf4_2 hf4_3 hl4 hl6 B1 B4 B6 HO HB hlk
                by_cases c5 : (x4.length : Int) + 1 > 200
                · have H := H'.out
                  clear H'
                  rw [if_pos c5] at H
                  simp only [Option.some.injEq, Prod.mk.injEq] at H
                  obtain ⟨rfl, rfl⟩ := H
                  have c5b : decide (200 < (x4.length : Int) + 1) = true := decide_eq_true c5
                  have c5c : (200 < (x4.length : Int) + 1) := c5
                  have c5d : 200 ≤ x4.length := by omega
                  go_wp2_with (at_builtin; refine Kd.R_append (Kd.int .u8) (w0 := w) w.heap.size rfl (.tmp 32) (.tmp 34) 80 5 (.int .u8 0) 1 rfl Try.underlying80 info5 rfl (by decide) (by omega) (.slice Ao x4.length co) x4 82 [.int .u8 82] (fun _ => True) (fun _ => False) rfl rfl ?aP (fun _ hk => hk.elim) ?aF ?aO ?aB ?aS ?aL ?_; (case aP => exact rfl); (case aF => exact (fun _ _ => trivial)); (case aO => exact HOs.out); (case aB => exact HBs.out); (case aS => exact HBs.out.size); (case aL => have := HL.out; omega); intro v5 w6 ho hb hg hat; have B1 := Aside0.mk (blk_grown B1s.out hg (Kd.R_ne HOs.out B1s.out (by decide))); have B4 := Aside0.mk (blk_grown B4s.out hg (Kd.R_ne HOs.out B4s.out (by decide))); have B6 := Aside0.mk (blk_grown B6s.out hg (Kd.R_ne HOs.out B6s.out (by decide))); have HO := Aside0.mk ho; have HB := Aside0.mk hb; clear ho hb hg hat HOs HBs B1s B4s B6s; obtain ⟨An, cn, en⟩ := Kd.R_slice HO.out; subst en; have hc4_0 := blk_cell B4.out 0; have hc4_1 := blk_cell B4.out 1; have hc4_2 := blk_cell B4.out 2; have hc4_3 := blk_cell B4.out 3; have hc6_0 := blk_cell B6.out 0; have hc6_1 := blk_cell B6.out 1; have hl4 := blk_lt B4.out; have hl6 := blk_lt B6.out; simp at hc6_0 hc6_1 hc4_0 hc4_1 hc4_2 hc4_3)
                  go_ret2
                  exact ⟨by first | rfl | (simp; done), by exact HB.out⟩
                · have H := H'.out
                  clear H'
                  rw [if_neg c5] at H
                  have c5b : decide (200 < (x4.length : Int) + 1) = false := decide_eq_false c5
                  have c5c : ¬ (200 < (x4.length : Int) + 1) := c5
                  have c5d : x4.length < 200 := by omega
                  have H' := Aside0.mk H
                  clear H
                  go_wp2_with (first | (at_builtin; refine Kd.R_append (Kd.int .u8) (w0 := w) w.heap.size rfl (.tmp 32) (.tmp 34) 80 5 (.int .u8 0) 1 rfl Try.underlying80 info5 rfl (by decide) (by omega) (.slice Ao x4.length co) x4 82 [.int .u8 82] (fun _ => True) (fun _ => False) rfl rfl ?aP (fun _ hk => hk.elim) ?aF ?aO ?aB ?aS ?aL ?_; (case aP => exact rfl); (case aF => exact (fun _ _ => trivial)); (case aO => exact HOs.out); (case aB => exact HBs.out); (case aS => exact HBs.out.size); (case aL => have := HL.out; omega); intro v5 w6 ho hb hg hat; have B1 := Aside0.mk (blk_grown B1s.out hg (Kd.R_ne HOs.out B1s.out (by decide))); have B4 := Aside0.mk (blk_grown B4s.out hg (Kd.R_ne HOs.out B4s.out (by decide))); have B6 := Aside0.mk (blk_grown B6s.out hg (Kd.R_ne HOs.out B6s.out (by decide))); have HO := Aside0.mk ho; have HB := Aside0.mk hb; clear ho hb hg hat HOs HBs B1s B4s B6s; obtain ⟨An, cn, en⟩ := Kd.R_slice HO.out; subst en; have hc4_0 := blk_cell B4.out 0; have hc4_1 := blk_cell B4.out 1; have hc4_2 := blk_cell B4.out 2; have hc4_3 := blk_cell B4.out 3; have hc6_0 := blk_cell B6.out 0; have hc6_1 := blk_cell B6.out 1; have hl4 := blk_lt B4.out; have hl6 := blk_lt B6.out; simp at hc6_0 hc6_1 hc4_0 hc4_1 hc4_2 hc4_3) | (go_at_call 62; (with_reducible refine (middle.calls _ _ _ _ _).mono ?_); rintro e w7 ⟨rfl, hb7⟩; have N1 := Aside0.mk (Nat.ne_of_lt (blk_lt B1.out)); have N4 := Aside0.mk (Nat.ne_of_lt (blk_lt B4.out)); have GE := Aside0.mk HB.out.size; have C1 := Aside0.mk (blk_below (blk_alloc B1.out _) hb7); have C4 := Aside0.mk (blk_below (blk_alloc B4.out _) hb7); have C6 := Aside0.mk (blk_below (blk_new w6 _) hb7); have C6b := Aside0.mk (blk_below (blk_alloc B6.out _) hb7); have CO := Aside0.mk (Kd.R_below (Kd.R_alloc HO.out _) hb7); have CB := Aside0.mk (below_step (below_alloc HB.out _) hb7); clear hc6_0 hc6_1 hc4_0 hc4_1 hc4_2 hc4_3 hl4 hl6 B1 B4 B6 HO HB hb7; have hd0 := blk_frozen C6.out 0; have hd1 := blk_frozen C6.out 1; have he0 := blk_cell C6.out 0; have he1 := blk_cell C6.out 1; have hlt := blk_lt C6.out; simp at he0 he1))
                  go_roundg k1
                  case measure => have := HK.out; omega
                  case rel => exact ⟨(wrap64 (x0 + x2)), (wrap64 (x1 + x3)), x2, x3, (x4 ++ [82]), _, rfl, H', ⟨by have := HK.out; omega⟩, ⟨by simp; omega⟩, N1, ⟨by rw [show x4.length + 1 = (x4 ++ [82]).length from (by simp)]; exact Kd.R_mono (Kd.R_far (Kd.R_far (Kd.R_types CO.out C6.out (by decide)) (fun _ hk => hk.2) _) (fun _ hk => hk.2) _) (fun _ h_ => h_.1)⟩, ⟨blk_far (blk_far C1.out N1.out _) N1.out _⟩, ⟨blk_far (blk_far C4.out N4.out _) N4.out _⟩, ⟨blk_put (cs := #[.int .i64 (wrap64 ((wrap64 (x0 + x2)) + x2)), .int .i64 (wrap64 (x1 + x3))]) (blk_put (cs := #[.int .i64 (wrap64 (x0 + x2)), .int .i64 (wrap64 (x1 + x3))]) C6.out 0 _ rfl) 1 _ rfl⟩, GE, ⟨below_set (below_set CB.out GE.out) GE.out⟩⟩
end Go.Proofs.Ythjodhmkmjabbaa.PY
