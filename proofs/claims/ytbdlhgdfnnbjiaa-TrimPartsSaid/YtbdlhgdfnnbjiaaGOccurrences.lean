/- The walk of trim.Occurrences. -/
import Derived.Test.YtbdlhgdfnnbjiaaGParts
namespace Go.Proofs.Ytbdlhgdfnnbjiaa.PY
open Go.RowKit Go.Shelf Go.Proofs.YtbdlhgdfnnbjiaaW.PrintWords Go.Proofs.YtbdlhgdfnnbjiaaW.PrintLast Go.Proofs.YtbdlhgdfnnbjiaaW.PrintMore
attribute [local go_sem] Oper.semAt_some
set_option linter.unusedVariables false
set_option linter.unusedSimpArgs false
theorem isWord_size {a0 : ByteArray} (h : trim_isWord.f a0 = some true) : a0.size ≤ 100 := by
  unfold trim_isWord.f at h
  by_cases c : (a0.size : Int) ≤ 100
  · omega
  · rw [if_neg c] at h; cases h
theorem partsC_len (s : ByteArray) (c : Nat) : ∀ (k : Nat) (n : Int), (partsC s c k n).length ≤ k
  | 0, _ => Nat.le_refl _
  | k + 1, n => by
    simp only [partsC]
    split
    · have := partsC_len s c k (n - 2)
      simp; omega
    · simp
theorem partsU_len (s : ByteArray) : ∀ m, (partsU s m).length ≤ 101 * m
  | 0 => by simp [partsU]
  | m + 1 => by
    have := partsU_len s m
    have := partsC_len s m 101 (cen s m)
    rw [partsU_succ, List.length_append]; omega
theorem partsL_len (s : ByteArray) (hs : s.size ≤ 100) : (partsL s).length ≤ 100000 := by
  have := partsU_len s (2 * s.size - 1)
  unfold partsL; omega
set_option maxHeartbeats 4000000 in
set_option maxRecDepth 100000 in
theorem trim_Occurrences.calls (a0 : ByteArray) (r1 : Int) (r2 : Int) (w : World) (h : trim_Occurrences.f a0 = some (r1, r2)) :
    Calls Try.prog 35 #[.string a0] w fun e w' => e = .returned (.tuple #[.int .i64 r1, .int .i64 r2]) ∧ Below w.heap.size w w' := by
  unfold trim_Occurrences.f at h
  obtain ⟨t, A1, h⟩ := Option.bind_eq_some_iff.mp h
  have hsz := fun e : t = true => isWord_size (by rw [← e]; exact A1)
  have A1 := Aside0.mk A1
  cases t with
  | false =>
    rw [if_neg (by decide)] at h
    simp only [Option.some.injEq, Prod.mk.injEq] at h
    obtain ⟨rfl, rfl⟩ := h
    clear hsz
    go_enter Try.func35, Try.ntmps35
    go_wp2_with (first | (go_at_call 54; (with_reducible refine (trim_isWord.calls a0 false _ A1.out).mono ?_); rintro e w1 ⟨rfl, hb1⟩))
    go_ret2
    exact ⟨rfl, hb1⟩
  | true =>
    rw [if_pos rfl] at h
    simp only [Option.some.injEq, Prod.mk.injEq] at h
    obtain ⟨hr1, rfl⟩ := h
    have hr1 := Aside0.mk hr1
    have hs := hsz rfl
    have hlen := Aside0.mk (partsL_len a0 hs)
    have hs := Aside0.mk hs
    clear hsz
    refine (callsIn_wide (n := 3)).1 ?_
    refine callsIn_of_wp_marks Try.func35 rfl trivial ?_
    simp only [Try.ntmps35, List.size_toArray, List.length_cons, List.length_nil, Nat.reduceAdd, Nat.reduceSub, Array.replicate_succ, Array.replicate_zero, List.push_toArray, List.append_toArray, List.nil_append, List.cons_append]
    gi_wp2_with (first | (refine ⟨trivial, ?_⟩; gi_at_call 54; (with_reducible refine (callsIn_wide.2 (trim_isWord.calls a0 true _ A1.out)).mono ?_); rintro e w1 ⟨rfl, hb1⟩) | (refine ⟨trivial, ?_⟩; gi_at_call 61; (with_reducible refine (callsIn_wide.2 (parts_make a0 _)).mono ?_); rintro e w2 ⟨rfl, rfl⟩))
    obtain ⟨W0, hW0⟩ : ∃ W0, W0 = ((w1.alloc (.cells #[.int .i64 0] 3 (0, 0))).alloc (.cells #[.string a0] 9 (0, 0))) := ⟨_, rfl⟩
    rw [← hW0]
    obtain ⟨b, hb⟩ : ∃ b, b = w1.heap.size := ⟨_, rfl⟩
    have Bn : W0.heap[b]? = some (.cells #[.int .i64 0] 3 (0, 0)) := by rw [hW0, hb]; exact blk_alloc (blk_new w1 _) _
    have Bs : W0.heap[b + 1]? = some (.cells #[.string a0] 9 (0, 0)) := by
      rw [hW0, hb]
      have := blk_new (w1.alloc (.cells #[.int .i64 0] 3 (0, 0))) (.cells #[.string a0] 9 (0, 0))
      rwa [World.size_alloc] at this
    have hS : W0.heap.size = b + 2 := by rw [hW0, hb]; simp
    have hbw : w.heap.size ≤ b := by have := hb1.size; omega
    have HB : Below w.heap.size w W0 := by rw [hW0]; exact below_alloc (below_alloc hb1 _) _
    rw [← hb]
    clear hW0 hb1 hb
    refine wpIn_rangeFunc_ownG rfl (by omega) (gf := 80) (lb := #[.pointer (some ⟨b + 1, 0, none⟩)]) rfl trivial (enters_of Try.func80 (by kernel_rfl) rfl)
      (parts_stops a0 hs.out _ (b + 1) W0 Bs) kpB_t (kpB_b (by omega)) (Below.refl _ _) (fun _ => rfl)
      (fun pre W => W.heap[b]? = some (.cells #[.int .i64 (pre.length : Int)] 3 (0, 0)) ∧ Below w.heap.size w W) (fun _ _ _ => False)
      (fun s A B row hs hg hr => ⟨(hg.block b (blk_lt hs.1) (fun e => by have := (hr _ e.symm).1; omega)).trans hs.1, hs.2.grown hg hs.2.size (fun k e => by have := (hr _ e).1; omega)⟩)
      (fun _ _ _ _ _ hs _ _ => hs) ⟨Bn, HB⟩
      (fun x => { tmps := #[.string a0, undef, .int .i64 0, .int .i64 0, .pointer (some ⟨b, 0, none⟩), .string a0, .bool true, .bool false, .string a0, .func (.func 80) #[] #[.pointer (some ⟨b + 1, 0, none⟩)], .int .i64 x.1.1, .string x.1.2, undef, undef, undef], defers := [] }) ?assign ?body ?done ?stop
    case assign =>
      intro l x W K hK
      gi_wp2
      simpa [encPt] using hK
    case body =>
      rintro l pre x W ⟨B, HBW⟩ hpl
      have hc := blk_cell B 0
      have hf := blk_frozen B 0
      simp at hc
      have hp : (pre.length : Int) ≤ 100000 := by have := hlen.out; omega
      have B := Aside0.mk B
      have HBW := Aside0.mk HBW
      clear hpl
      gi_wp2
      refine ⟨(KeepsOthers.setCell _ _ _).from _, Below.heap_setCell _ _ _ (b + 1) (by simp), ?_, below_set HBW.out (by simpa using hbw)⟩
      have := blk_put B.out 0 (.int .i64 ((pre.length : Int) + 1)) rfl
      simpa using this
    case done =>
      rintro D ys W hD rfl ⟨B, HBW⟩ hK
      have hc := blk_cell B 0
      simp at hc
      have hK := Aside0.mk hK
      have HBW := Aside0.mk HBW
      have hD := Aside0.mk hD
      gi_wp2
      refine ⟨by simp, .inl ⟨_, _, rfl, run_takeDeferred hK.out, ?_⟩⟩
      refine ⟨_, by simp [results, Try.f35, go_sem]; rfl, ?_, HBW.out.grown (grownBy_putObj' _ _ _) HBW.out.size (fun k e => by cases e; have := hD.out; omega)⟩
      rw [← hr1.out]
    case stop =>
      rintro D c pre W _ _ h _
      exact h.elim
end Go.Proofs.Ytbdlhgdfnnbjiaa.PY
