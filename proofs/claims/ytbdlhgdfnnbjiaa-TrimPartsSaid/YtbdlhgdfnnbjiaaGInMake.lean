/- trim.inner: its maker, and the world in which Inner and Outer walk. -/
import Derived.Test.YtbdlhgdfnnbjiaaGSub
import Derived.Laws.EntriesVeiled
namespace Go.Proofs.Ytbdlhgdfnnbjiaa.PY
open Go.RowKit Go.Shelf Go.Maps Go.Proofs.YtbdlhgdfnnbjiaaW.PrintWords Go.Proofs.YtbdlhgdfnnbjiaaW.PrintLast Go.Proofs.YtbdlhgdfnnbjiaaW.PrintMore
set_option linter.unusedVariables false
set_option linter.unusedSimpArgs false
theorem Memo.far {s : ByteArray} {b : Nat} {W W1 : World} {row : Option Nat} (h : Memo s (b + 2) (b + 3) b (b + 1) W) (hg : W.grownBy W1 row) (hr : ∀ q, row = some q → b + 4 ≤ q) : Memo s (b + 2) (b + 3) b (b + 1) W1 := by
  obtain ⟨D, hD, hG⟩ := h.M
  have ne : ∀ k, k < b + 4 → some k ≠ row := fun k hk e => by have := hr k e.symm; omega
  exact ⟨(hg.block _ (blk_lt h.K) (ne _ (by omega))).trans h.K, (hg.block _ (blk_lt h.L) (ne _ (by omega))).trans h.L, (hg.block _ (blk_lt h.S) (ne _ (by omega))).trans h.S, D, hD.kept hg (ne _ (by omega)), hG⟩
/-- The world of Inner between two steps. -/
structure InAt (s : ByteArray) (w : World) (b : Nat) (v : Value) (half : List Int) (W : World) : Prop where
  M : Memo s (b + 2) (b + 3) b (b + 1) W
  HO : Kd.R (Kd.int .u8) 5 W w.heap.size (fun q => b + 4 ≤ q) v half
  HB : Below w.heap.size w W
  HZ : b + 4 ≤ W.heap.size
  hb : w.heap.size ≤ b
theorem InAt.call {s : ByteArray} {w : World} {b : Nat} {v : Value} {half : List Int} {W W1 : World} (h : InAt s w b v half W) (hM : Memo s (b + 2) (b + 3) b (b + 1) W1) (hg : W.grownBy W1 (some (b + 1))) : InAt s w b v half W1 :=
  ⟨hM, Kd.R_grown h.HO hg (fun k hk e => by have := Option.some.inj e; omega), h.HB.grown hg h.HB.size (fun k e => by cases e; have := h.hb; omega), Nat.le_trans h.HZ hg.size, h.hb⟩
theorem InAt.below {s : ByteArray} {w : World} {b : Nat} {v : Value} {half : List Int} {W W1 : World} (h : InAt s w b v half W) (hb : Below W.heap.size W W1) (hg : W.grownBy W1 none) : InAt s w b v half W1 :=
  ⟨h.M.kept hg, Kd.R_below h.HO hb, below_step h.HB hb, Nat.le_trans h.HZ hg.size, h.hb⟩
theorem InAt.drewN {s : ByteArray} {w : World} {b : Nat} {v : Value} {half : List Int} {W : World} (h : InAt s w b v half W) (n : Nat) : InAt s w b v half (W.drewN n) :=
  h.below (pw_below_drewN (Below.refl _ _) n) (grown_drewN W n)
theorem InAt.grow {s : ByteArray} {w : World} {b : Nat} {v v1 : Value} {half half1 : List Int} {W W1 : World} (h : InAt s w b v half W) (hO : Kd.R (Kd.int .u8) 5 W1 w.heap.size (fun q => b + 4 ≤ q) v1 half1) (hB : Below w.heap.size w W1) (hg : W.grownBy W1 v.ownBlock) : InAt s w b v1 half1 W1 :=
  ⟨h.M.far hg (fun q e => h.HO.1 q e), hO, hB, Nat.le_trans h.HZ hg.size, h.hb⟩
theorem InAt.alloc {s : ByteArray} {w : World} {b : Nat} {v : Value} {half : List Int} {W : World} (h : InAt s w b v half W) (o : Obj) : InAt s w b v half (W.alloc o) :=
  h.below (below_alloc (Below.refl _ _) o) (World.grownBy_alloc W o none)
set_option maxHeartbeats 4000000 in
set_option maxRecDepth 100000 in
theorem make70 (s : ByteArray) (w : World) : Calls Try.prog 70 #[.string s] w fun e w' => e = .returned (LF (w.heap.size + 2) (w.heap.size + 3) w.heap.size) ∧ InAt s w w.heap.size (.slice none 0 0) [] w' := by
  have hmm := @run_makeMap Try.prog
  go_enter Try.func70, Try.ntmps70
  go_wp2
  go_ret
  refine ⟨rfl, ?_⟩
  have e1 : (w.alloc (.cells #[.string s] 9)).heap.size = w.heap.size + 1 := Array.size_push _
  have e2 : ((w.alloc (.cells #[.string s] 9)).alloc (.map #[] 0)).heap.size = w.heap.size + 2 := by rw [show ∀ (W : World) o, (W.alloc o).heap.size = W.heap.size + 1 from fun W o => Array.size_push _, e1]
  have hm := World.ownsMap_made (w.alloc (.cells #[.string s] 9)) Try.prog 83 (plainElem (H := Unit) Try.prog 3)
  rw [e1] at hm
  have b1 := blk_new w (.cells #[.string s] 9)
  have b3 := blk_new ((w.alloc (.cells #[.string s] 9)).alloc (.map #[] 0)) (.cells #[.map (some (w.heap.size + 1))] 82)
  rw [e2] at b3
  have b4 := blk_new (((w.alloc (.cells #[.string s] 9)).alloc (.map #[] 0)).alloc (.cells #[.map (some (w.heap.size + 1))] 82)) (.cells #[LF (w.heap.size + 2) (w.heap.size + 3) w.heap.size] 39)
  rw [show ∀ (W : World) o, (W.alloc o).heap.size = W.heap.size + 1 from fun W o => Array.size_push _, e2] at b4
  have hM := ((hm.alloc (.cells #[.map (some (w.heap.size + 1))] 82)).alloc (.cells #[LF (w.heap.size + 2) (w.heap.size + 3) w.heap.size] 39))
  refine ⟨⟨blk_alloc b3 _, b4, blk_alloc (blk_alloc (blk_alloc b1 _) _) _, _, own_size hM, good_empty s⟩, Kd.R_nil _ _ _ _ _, ?_, ?_, Nat.le_refl _⟩
  · exact below_alloc (below_alloc (below_alloc (below_alloc (Below.refl _ _) _) _) _) _
  · rw [show ∀ (W : World) o, (W.alloc o).heap.size = W.heap.size + 1 from fun W o => Array.size_push _, show ∀ (W : World) o, (W.alloc o).heap.size = W.heap.size + 1 from fun W o => Array.size_push _, e2]; exact Nat.le_refl _
end Go.Proofs.Ytbdlhgdfnnbjiaa.PY
