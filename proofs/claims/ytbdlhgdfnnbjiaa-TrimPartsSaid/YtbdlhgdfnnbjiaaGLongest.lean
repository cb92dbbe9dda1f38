/- The walk of trim.Longest. -/
import Derived.Test.YtbdlhgdfnnbjiaaGOccurrences
namespace Go.Proofs.Ytbdlhgdfnnbjiaa.PY
open Go.RowKit Go.Shelf Go.Proofs.YtbdlhgdfnnbjiaaW.PrintWords Go.Proofs.YtbdlhgdfnnbjiaaW.PrintLast Go.Proofs.YtbdlhgdfnnbjiaaW.PrintMore
attribute [local go_sem] Oper.semAt_some
set_option linter.unusedVariables false
set_option linter.unusedSimpArgs false
/-- What has come so far. -/
def longOf (pre : List Pt) : Int × Int := (pre.map (·.1)).foldl longStep (0, 0)
theorem longOf_snoc (pre : List Pt) (x : Pt) : longOf (pre ++ [x]) = longStep (longOf pre) x.1 := by simp [longOf, List.foldl_append]
theorem longOf_all (s : ByteArray) (hs : s.size ≤ 100) : longOf ((partsL s).map toPt) = longSpec s := by
  unfold longOf longSpec
  rw [List.map_map]
  have : ∀ t ∈ partsL s, (toPt t).1 = t := by
    intro t ht
    refine toPt_val ?_
    unfold partsL partsU at ht
    obtain ⟨c, _, hc⟩ := List.mem_flatMap.1 ht
    have : ∀ (k : Nat) (n : Int), ∀ t ∈ partsC s c k n, t.2.size ≤ 100 := by
      intro k
      induction k with
      | zero => intro n t ht; simp [partsC] at ht
      | succ k ih =>
        intro n t ht
        simp only [partsC] at ht
        split at ht
        · rcases List.mem_cons.1 ht with rfl | ht
          · exact ext_size s hs _ _
          · exact ih _ _ ht
        · simp at ht
    exact this _ _ t hc
  have e : (partsL s).map ((fun x : Pt => x.1) ∘ toPt) = partsL s := by
    conv => rhs; rw [← List.map_id (partsL s)]
    exact List.map_congr_left (fun t ht => this t ht)
  rw [e]
theorem step_yes {r : Int × Int} {x : Int × ByteArray} (h : r.2 < (x.2.size : Int) ∨ ((x.2.size : Int) = r.2 ∧ x.1 < r.1)) : longStep r x = (x.1, (x.2.size : Int)) := by unfold longStep; rw [if_pos h]
theorem step_no {r : Int × Int} {x : Int × ByteArray} (h : ¬ (r.2 < (x.2.size : Int) ∨ ((x.2.size : Int) = r.2 ∧ x.1 < r.1))) : longStep r x = r := by unfold longStep; rw [if_neg h]
set_option maxHeartbeats 4000000 in
set_option maxRecDepth 100000 in
theorem trim_Longest.calls (a0 : ByteArray) (r1 : Int) (r2 : Int) (r3 : Int) (w : World) (h : trim_Longest.f a0 = some (r1, r2, r3)) :
    Calls Try.prog 36 #[.string a0] w fun e w' => e = .returned (.tuple #[.int .i64 r1, .int .i64 r2, .int .i64 r3]) ∧ Below w.heap.size w w' := by
  unfold trim_Longest.f at h
  obtain ⟨t, A1, h⟩ := Option.bind_eq_some_iff.mp h
  have hsz := fun e : t = true => isWord_size (by rw [← e]; exact A1)
  have A1 := Aside0.mk A1
  cases t with
  | false =>
    rw [if_neg (by decide)] at h
    simp only [Option.some.injEq, Prod.mk.injEq] at h
    obtain ⟨rfl, rfl, rfl⟩ := h
    clear hsz
    go_enter Try.func36, Try.ntmps36
    go_wp2_with (first | (go_at_call 54; (with_reducible refine (trim_isWord.calls a0 false _ A1.out).mono ?_); rintro e w1 ⟨rfl, hb1⟩))
    go_ret3
    exact ⟨rfl, hb1⟩
  | true =>
    rw [if_pos rfl] at h
    simp only [Option.some.injEq, Prod.mk.injEq] at h
    obtain ⟨hr1, hr2, rfl⟩ := h
    have hs := hsz rfl
    rw [← longOf_all a0 hs] at hr1 hr2
    have hr1 := Aside0.mk hr1
    have hr2 := Aside0.mk hr2
    have hs := Aside0.mk hs
    clear hsz
    refine (callsIn_wide (n := 3)).1 ?_
    refine callsIn_of_wp_marks Try.func36 rfl trivial ?_
    simp only [Try.ntmps36, List.size_toArray, List.length_cons, List.length_nil, Nat.reduceAdd, Nat.reduceSub, Array.replicate_succ, Array.replicate_zero, List.push_toArray, List.append_toArray, List.nil_append, List.cons_append]
    gi_wp2_with (first | (refine ⟨trivial, ?_⟩; gi_at_call 54; (with_reducible refine (callsIn_wide.2 (trim_isWord.calls a0 true _ A1.out)).mono ?_); rintro e w1 ⟨rfl, hb1⟩) | (refine ⟨trivial, ?_⟩; gi_at_call 61; (with_reducible refine (callsIn_wide.2 (parts_make a0 _)).mono ?_); rintro e w2 ⟨rfl, rfl⟩))
    obtain ⟨W0, hW0⟩ : ∃ W0, W0 = (((w1.alloc (.cells #[.int .i64 0] 3 (0, 0))).alloc (.cells #[.int .i64 0] 3 (0, 0))).alloc (.cells #[.string a0] 9 (0, 0))) := ⟨_, rfl⟩
    rw [← hW0]
    obtain ⟨b, hb⟩ : ∃ b, b = w1.heap.size := ⟨_, rfl⟩
    have Bf : W0.heap[b]? = some (.cells #[.int .i64 0] 3 (0, 0)) := by rw [hW0, hb]; exact blk_alloc (blk_alloc (blk_new w1 _) _) _
    have Bz : W0.heap[b + 1]? = some (.cells #[.int .i64 0] 3 (0, 0)) := by
      rw [hW0, hb]
      have := blk_new (w1.alloc (.cells #[.int .i64 0] 3 (0, 0))) (.cells #[.int .i64 0] 3 (0, 0))
      rw [World.size_alloc] at this
      exact blk_alloc this _
    have Bs : W0.heap[b + 1 + 1]? = some (.cells #[.string a0] 9 (0, 0)) := by
      rw [hW0, hb]
      have := blk_new ((w1.alloc (.cells #[.int .i64 0] 3 (0, 0))).alloc (.cells #[.int .i64 0] 3 (0, 0))) (.cells #[.string a0] 9 (0, 0))
      rw [World.size_alloc, World.size_alloc] at this
      exact this
    have hS : W0.heap.size = b + 3 := by rw [hW0, hb]; simp
    have hbw : w.heap.size ≤ b := by have := hb1.size; omega
    have HB : Below w.heap.size w W0 := by rw [hW0]; exact below_alloc (below_alloc (below_alloc hb1 _) _) _
    rw [← hb]
    clear hW0 hb1 hb
    refine wpIn_rangeFunc_ownG rfl (by omega) (gf := 80) (lb := #[.pointer (some ⟨b + 1 + 1, 0, none⟩)]) rfl trivial (enters_of Try.func80 (by kernel_rfl) rfl)
      (parts_stops a0 hs.out _ (b + 1 + 1) W0 Bs) kpB_t (kpB_b (by omega)) (Below.refl _ _) (fun _ => rfl)
      (fun pre W => W.heap[b]? = some (.cells #[.int .i64 (longOf pre).1] 3 (0, 0)) ∧ W.heap[b + 1]? = some (.cells #[.int .i64 (longOf pre).2] 3 (0, 0)) ∧ Below w.heap.size w W) (fun _ _ _ => False)
      (fun s A B row hs hg hr => ⟨(hg.block b (blk_lt hs.1) (fun e => by have := (hr _ e.symm).1; omega)).trans hs.1, (hg.block (b + 1) (blk_lt hs.2.1) (fun e => by have := (hr _ e.symm).1; omega)).trans hs.2.1, hs.2.2.grown hg hs.2.2.size (fun k e => by have := (hr _ e).1; omega)⟩)
      (fun _ _ _ _ _ hs _ _ => hs) ⟨Bf, Bz, HB⟩
      (fun x => { tmps := #[.string a0, undef, .int .i64 0, .int .i64 0, .int .i64 0, .pointer (some ⟨b, 0, none⟩), .pointer (some ⟨b + 1, 0, none⟩), .int .i64 x.1.1, .string x.1.2, .string a0, .bool true, .bool false, .string a0, .func (.func 80) #[] #[.pointer (some ⟨b + 1 + 1, 0, none⟩)], .int .i64 x.1.1, .string x.1.2, undef, undef, undef, undef, undef, undef, undef, undef, undef, undef, undef, undef, undef, undef, undef, undef, undef, undef, undef, undef], defers := [] }) ?assign ?body ?done ?stop
    case assign =>
      intro l x W K hK
      have hz : (#[14, 15] : Array Tmp).zip (encPt x) = #[(14, .int .i64 x.1.1), (15, .string x.1.2)] := by simp [encPt]
      rw [hz]
      gi_wp2
      exact hK
    case body =>
      rintro l pre x W ⟨B1, B2, HBW⟩ hpl
      have hSS := Aside0.mk hS
      clear hS
      obtain ⟨r, hr⟩ : ∃ r, r = longOf pre := ⟨_, rfl⟩
      have hsn := longOf_snoc pre x
      rw [← hr] at B1 B2 hsn
      obtain ⟨p, t, hxe⟩ : ∃ p t, x.1 = (p, t) := ⟨_, _, rfl⟩
      rw [hxe] at hsn ⊢
      clear hr hpl hxe
      obtain ⟨f, z⟩ := r
      have hc1 := blk_cell B1 0
      have hf1 := blk_frozen B1 0
      have hc2 := blk_cell B2 0
      have hf2 := blk_frozen B2 0
      simp at hc1 hc2
      have hsn := Aside0.mk hsn
      have B1 := Aside0.mk B1
      have B2 := Aside0.mk B2
      have HBW := Aside0.mk HBW
      have hyes : longStep (f, z) (p, t) = (p, (t.size : Int)) → ∀ W' : World, W' = (W.setCell ⟨b, 0, none⟩ (.int .i64 p)).setCell ⟨b + 1, 0, none⟩ (.int .i64 t.size) → KeepsFrom W0.heap.size W W' ∧ KpB (b + 1 + 1) W W' ∧ W'.heap[b]? = some (.cells #[.int .i64 (longOf (pre ++ [x])).1] 3 (0, 0)) ∧ W'.heap[b + 1]? = some (.cells #[.int .i64 (longOf (pre ++ [x])).2] 3 (0, 0)) ∧ Below w.heap.size w W' := by
        rintro hst W' rfl
        rw [hsn.out, hst]
        refine ⟨((KeepsOthers.setCell _ _ _).trans (KeepsOthers.setCell _ _ _)).from _, ?_, ?_, ?_, below_set (below_set HBW.out hbw) (show w.heap.size ≤ b + 1 by omega)⟩
        · exact (Below.heap_setCell _ _ _ (b + 1 + 1) (show b + 1 + 1 ≠ b + 1 by omega)).trans (Below.heap_setCell _ _ _ (b + 1 + 1) (show b + 1 + 1 ≠ b by omega))
        · exact (Below.heap_setCell _ _ _ b (show b ≠ b + 1 by omega)).trans (blk_put B1.out 0 _ rfl)
        · exact blk_put ((Below.heap_setCell _ _ _ (b + 1) (show b + 1 ≠ b by omega)).trans B2.out) 0 _ rfl
      have hno : longStep (f, z) (p, t) = (f, z) → KeepsFrom W0.heap.size W W ∧ KpB (b + 1 + 1) W W ∧ W.heap[b]? = some (.cells #[.int .i64 (longOf (pre ++ [x])).1] 3 (0, 0)) ∧ W.heap[b + 1]? = some (.cells #[.int .i64 (longOf (pre ++ [x])).2] 3 (0, 0)) ∧ Below w.heap.size w W := by
        intro hst
        rw [hsn.out, hst]
        exact ⟨KeepsFrom.refl _ _, rfl, B1.out, B2.out, HBW.out⟩
      have hyes := Aside0.mk hyes
      have hno := Aside0.mk hno
      by_cases c1 : z < (t.size : Int)
      · have c1b : decide (z < (t.size : Int)) = true := decide_eq_true c1
        have hst := Aside0.mk (step_yes (r := (f, z)) (x := (p, t)) (.inl c1))
        clear c1
        gi_wp2
        exact hyes.out hst.out _ rfl
      · have c1b : decide (z < (t.size : Int)) = false := decide_eq_false c1
        by_cases c2 : (t.size : Int) = z
        · have c2b : ((t.size : Int) == z) = true := by simpa using c2
          by_cases c3 : p < f
          · have c3b : decide (p < f) = true := decide_eq_true c3
            have hst := Aside0.mk (step_yes (r := (f, z)) (x := (p, t)) (.inr ⟨c2, c3⟩))
            clear c1 c2 c3
            gi_wp2
            exact hyes.out hst.out _ rfl
          · have c3b : decide (p < f) = false := decide_eq_false c3
            have hst := Aside0.mk (step_no (r := (f, z)) (x := (p, t)) (fun h => by rcases h with h | h; exact c1 h; exact c3 h.2))
            clear c1 c2 c3
            gi_wp2
            exact hno.out hst.out
        · have c2b : ((t.size : Int) == z) = false := by simpa using c2
          have hst := Aside0.mk (step_no (r := (f, z)) (x := (p, t)) (fun h => by rcases h with h | h; exact c1 h; exact c2 h.1))
          clear c1 c2
          gi_wp2
          exact hno.out hst.out
    case done =>
      rintro D ys W hD rfl ⟨B1, B2, HBW⟩ hK
      have hc1 := blk_cell B1 0
      have hc2 := blk_cell B2 0
      simp at hc1 hc2
      have hK := Aside0.mk hK
      have HBW := Aside0.mk HBW
      have hD := Aside0.mk hD
      gi_wp2
      gi_region
      gi_wp2
      have hK2 : W.drew.heap[D]? = some (.deferred (some [])) := hK.out
      refine ⟨by simp, .inl ⟨_, _, rfl, run_takeDeferred hK2, ?_⟩⟩
      exact ⟨_, by simp [results, Try.f36, go_sem], rfl, (below_drew1 HBW.out).grown (grownBy_putObj' _ _ _) (below_drew1 HBW.out).size (fun k e => by cases e; have := hD.out; omega)⟩
    case stop =>
      rintro D c pre W _ _ h _
      exact h.elim
end Go.Proofs.Ytbdlhgdfnnbjiaa.PY
