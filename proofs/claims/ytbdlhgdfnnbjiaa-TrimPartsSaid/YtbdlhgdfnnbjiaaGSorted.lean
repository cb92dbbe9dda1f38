/- slices.SortedFunc with the closure of Palindromes, against whatever iterator. -/
import Derived.Test.YtbdlhgdfnnbjiaaGOrder
import Derived.Shelf.SlIter.Sorted
import Derived.RangeFuncBound
import Derived.Sort.OwnSorted
namespace Go.Proofs.Ytbdlhgdfnnbjiaa.PY
open Go.RowKit Go.Shelf Go.Sort Go.Maps Go.Proofs.YtbdlhgdfnnbjiaaW.PrintWords Go.Proofs.YtbdlhgdfnnbjiaaW.PrintLast Go.Proofs.YtbdlhgdfnnbjiaaW.PrintMore
attribute [local go_sem] Oper.semAt_some
set_option linter.unusedVariables false
set_option linter.unusedSimpArgs false
theorem sort82 (gb cap : Nat) (ss : List (List UInt8)) (W : World) (hH : Holds encStr W gb 0 ss.toArray) (hgl : gb < W.heap.size) (hsz : ss.length < 4611686018427387904) :
    Calls Try.prog 82 #[.slice (some ⟨gb, 0, none⟩) ss.length cap, .func (.func 64) #[] #[]] W fun e w' => e = .returned (.tuple #[]) ∧ ∃ k os, w' = grow (putRow encStr (Sort.ahead W k) gb 0 (ss.mergeSort fun x y => !(ltOf cmpP) y x).toArray) os := by
  have eg : ∀ args w, (callFunc 64 args).run Try.prog w = .ok (.enter 64 args) w := enters_of Try.func64 (by kernel_rfl) rfl
  have h := Any.slices_SortFunc_total (ρ := Try.sortL_ren) Try.sortL encStr (fun _ => rfl) cmpP swoP 64 #[] gb 0 cap ss.toArray W eg (fun m os dk _ x y => cmp64 x y _) hH hgl (by simpa using hsz) totP
  change Calls Try.prog 82 _ _ _ at h
  refine (by simpa using h : Calls Try.prog 82 #[.slice (some ⟨gb, 0, none⟩) ss.length cap, .func (.func 64) #[] #[]] W _).mono ?_
  rintro e w' ⟨he, k, os, hw⟩
  exact ⟨he, k, os, hw⟩
theorem sort82_none (W : World) : Calls Try.prog 82 #[.slice none 0 0, .func (.func 64) #[] #[]] W fun e w' => e = .returned (.tuple #[]) ∧ w' = W := by
  have h := AnyF.slices_SortFunc_none (ρ := Try.sortL_ren) { Try.sortL with } none 0 (.func (.func 64) #[] #[]) W
  exact h
set_option maxHeartbeats 2000000 in
set_option maxRecDepth 100000 in
theorem sorted62 (n : Nat) (hn : 4 ≤ n) (g : Nat) (lb : Array Value) (eg : ∀ args w, (callFunc g args).run Try.prog w = .ok (.enter g args) w)
    (S : List (List UInt8) → Prop) (K : Nat) (hK : K ≤ maxLen) (hKb : K * 16 ≤ 140737488355328) (w : World) (hseq : SeqGives Fence.wide (n - 1 - 1 - 1) Try.prog g lb encStr S K w) :
    CallsIn Fence.wide n Try.prog 62 #[.func (.func g) #[] lb, .func (.func 64) #[] #[]] w fun e w' => ∃ (v : Value) (ss : List (List UInt8)), e = .returned v ∧ S ss ∧
      w'.ownsRow w.heap.size 9 1 v ss.length ((ss.mergeSort (fun x y => !(ltOf cmpP) y x)).map encStr) ∧ Below w.heap.size w w' := by
  have cC := AnyZ.collect_in (ρ := Try.collectL_ren) Try.collectL Fence.wide (n - 1) trivial trivial rfl (by omega) g lb trivial eg (fun ss => S ss ∧ ss.length ≤ K) K hK hKb w hseq.bounded
  change CallsIn Fence.wide (n - 1) Try.prog 81 _ _ _ at cC
  refine callsIn_of_wp Try.func62 rfl trivial ?_ rfl
  simp only [Try.ntmps62, List.size_toArray, List.length_cons, List.length_nil, Nat.reduceAdd, Nat.reduceSub, Array.replicate_succ, Array.replicate_zero, List.push_toArray, List.append_toArray, List.nil_append, List.cons_append]
  gi_wp2_with (refine ⟨trivial, (fun h => (by cases h)), ?_⟩; gi_at_call 81; refine cC.mono ?_; rintro e W ⟨v, ss, rfl, ⟨hS, hlen⟩, hrow, hnil, hb⟩)
  have hrow : W.ownsRow w.heap.size 9 1 v ss.length (ss.map encStr) := hrow
  rcases hrow.2 with ⟨rfl, hz⟩ | ⟨gb, cap, cur, rfl, hbase, hgb, r1, r2, r3, r4⟩
  · have hss : ss = [] := List.eq_nil_of_length_eq_zero hz
    subst hss
    gi_wp2_with (refine ⟨trivial, (fun h => (by cases h)), ?_⟩; gi_at_call 82; refine (callsIn_wide.2 (sort82_none W)).mono ?_; rintro e w' ⟨rfl, rfl⟩)
    go_ret
    exact ⟨.slice none 0 0, [], rfl, hS, by simpa using hrow, hb⟩
  · have hH : Holds encStr W gb 0 ss.toArray := holds_of_block hgb (by simpa using r4)
    have hgl : gb < W.heap.size := (Array.getElem?_eq_some_iff.1 hgb).1
    have hsz : ss.length < 4611686018427387904 := by omega
    have cS := sort82 gb cap ss W hH hgl hsz
    gi_wp2_with (refine ⟨trivial, (fun h => (by cases h)), ?_⟩; gi_at_call 82; refine (callsIn_wide.2 cS).mono ?_; rintro e w' ⟨rfl, nn, os, rfl⟩)
    go_ret
    exact ⟨_, ss, rfl, hS, ownsRow_sorted (by simp) hbase hgb r1 r2 r3, hb.grown (grownBy_sorted _) hb.size (fun j hj => by cases hj; exact hbase)⟩
end Go.Proofs.Ytbdlhgdfnnbjiaa.PY
