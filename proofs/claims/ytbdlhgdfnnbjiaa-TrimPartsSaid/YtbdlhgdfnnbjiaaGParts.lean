/- trim.parts: its iterator, for every loop body; what it hands on. -/
import Derived.Test.YtbdlhgdfnnbjiaaGSpec
import Derived.RangeFuncWrites
import Derived.RangeFuncNested
import Derived.RangeFuncCalls
import Derived.RangeFuncLeaves
import Derived.Shelf.Abstract
import Derived.Shelf.RegionOpen
import Derived.OwnWalkIn
import Derived.TacticsInMore
import Derived.LoopNIn
import Derived.LoopIn
import Derived.Sort.LoopGhostIn
namespace Go.Proofs.Ytbdlhgdfnnbjiaa.PY
open Go.RowKit Go.Shelf Go.Proofs.YtbdlhgdfnnbjiaaW.PrintWords Go.Proofs.YtbdlhgdfnnbjiaaW.PrintLast Go.Proofs.YtbdlhgdfnnbjiaaW.PrintMore
attribute [local go_sem] Oper.semAt_some max2_int max_two
set_option linter.unusedVariables false
set_option linter.unusedSimpArgs false
/-! ### the longest palindrome at a center -/
theorem pw64 {n : Int} (h0 : -9223372036854775808 ≤ n) (h1 : n ≤ 9223372036854775807) : wrap64 n = n := by unfold wrap64; omega
theorem cen_loop (s : ByteArray) (hs : s.size ≤ 100) : ∀ (d k i j : Nat), i ≤ d → d < k → j < s.size → i ≤ j + 1 → ∃ m : Nat, m ≤ i ∧ j + m < s.size ∧ trim_centered.l0 k s i j = some ((j : Int) - i + 1 + 2 * m) := by
  intro d
  induction d with
  | zero =>
    intro k i j hi hk hj hij
    obtain ⟨k, rfl⟩ : ∃ m, k = m + 1 := ⟨k - 1, by omega⟩
    refine ⟨0, Nat.zero_le _, hj, ?_⟩
    simp only [trim_centered.l0]
    rw [if_neg (by omega), pw64 (n := (j : Int) - i) (by omega) (by omega), pw64 (by omega) (by omega)]
    simp
  | succ d ih =>
    intro k i j hi hk hj hij
    obtain ⟨k, rfl⟩ : ∃ m, k = m + 1 := ⟨k - 1, by omega⟩
    have hend : some (wrap64 (wrap64 ((j : Int) - i) + 1)) = some ((j : Int) - i + 1 + 2 * (0 : Nat)) := by
      rw [pw64 (n := (j : Int) - i) (by omega) (by omega), pw64 (by omega) (by omega)]; simp
    by_cases h1 : (i : Int) > 0
    · have e1 : wrap64 ((j : Int) + 1) = ((j + 1 : Nat) : Int) := by rw [pw64 (by omega) (by omega)]; rfl
      have e2 : wrap64 ((i : Int) - 1) = ((i - 1 : Nat) : Int) := by rw [pw64 (by omega) (by omega)]; omega
      by_cases h2 : ((j + 1 : Nat) : Int) < s.size
      · by_cases h3 : ((i - 1 : Nat) : Int) < s.size
        · by_cases h4 : bt s ((i - 1 : Nat) : Int) = bt s ((j + 1 : Nat) : Int)
          · obtain ⟨m, hm1, hm2, hm3⟩ := ih k (i - 1) (j + 1) (by omega) (by omega) (by omega) (by omega)
            refine ⟨m + 1, by omega, by omega, ?_⟩
            simp only [trim_centered.l0, e1, e2]
            rw [if_pos h1, if_pos h2, if_pos (by omega), if_pos h3, if_pos (by omega), if_pos h4, hm3]
            congr 1
            omega
          · refine ⟨0, Nat.zero_le _, hj, ?_⟩
            simp only [trim_centered.l0, e1, e2]
            rw [if_pos h1, if_pos h2, if_pos (by omega), if_pos h3, if_pos (by omega), if_neg h4]
            exact hend
        · exact absurd (show ((i - 1 : Nat) : Int) < s.size by omega) h3
      · refine ⟨0, Nat.zero_le _, hj, ?_⟩
        simp only [trim_centered.l0, e1, e2]
        rw [if_pos h1, if_neg h2]
        exact hend
    · refine ⟨0, Nat.zero_le _, hj, ?_⟩
      simp only [trim_centered.l0]
      rw [if_neg h1]
      exact hend
theorem cen_ok (s : ByteArray) (hs : s.size ≤ 100) (c : Nat) (hc : c + 1 < 2 * s.size) :
    trim_centered.f 200 s c = some (cen s c) ∧ 0 ≤ cen s c ∧ cen s c ≤ (c : Int) + 1 ∧ (c : Int) + 1 + cen s c ≤ 2 * s.size ∧ ((c : Int) + 1 - cen s c) % 2 = 0 := by
  have e1 : wrap64 (Int.tdiv (wrap64 ((c : Int) + 1)) 2) = (((c + 1) / 2 : Nat) : Int) := by
    rw [pw64 (n := (c : Int) + 1) (by omega) (by omega), Int.tdiv_eq_ediv_of_nonneg (by omega), pw64 (by omega) (by omega)]; omega
  have e2 : wrap64 (Int.tdiv (c : Int) 2) = ((c / 2 : Nat) : Int) := by
    rw [Int.tdiv_eq_ediv_of_nonneg (by omega), pw64 (by omega) (by omega)]; omega
  obtain ⟨m, hm1, hm2, hm3⟩ := cen_loop s hs ((c + 1) / 2) 200 ((c + 1) / 2) (c / 2) (Nat.le_refl _) (by omega) (by omega) (by omega)
  have hf : trim_centered.f 200 s c = some (((c / 2 : Nat) : Int) - ((c + 1) / 2 : Nat) + 1 + 2 * m) := by
    simp only [trim_centered.f, e1, e2]; exact hm3
  have hv : cen s c = ((c / 2 : Nat) : Int) - ((c + 1) / 2 : Nat) + 1 + 2 * m := by unfold cen; rw [hf]; rfl
  have hp : (c % 2 = 0 ∧ (c + 1) / 2 = c / 2) ∨ (c % 2 = 1 ∧ (c + 1) / 2 = c / 2 + 1) := by omega
  refine ⟨by rw [hv]; exact hf, ?_⟩
  rcases hp with ⟨h1, h2⟩ | ⟨h1, h2⟩
  · rw [h2] at hv hm1
    have hv' : cen s c = 1 + 2 * m := by omega
    rw [hv']
    exact ⟨by omega, by omega, by omega, by omega⟩
  · rw [h2] at hv hm1
    have hv' : cen s c = 2 * m := by omega
    rw [hv']
    exact ⟨by omega, by omega, by omega, by omega⟩
/-! ### what comes -/
abbrev Pt := { t : Int × ByteArray // t.2.size ≤ 100 }
def toPt (t : Int × ByteArray) : Pt := if h : t.2.size ≤ 100 then ⟨t, h⟩ else ⟨(0, ⟨#[]⟩), by decide⟩
theorem toPt_val {t : Int × ByteArray} (h : t.2.size ≤ 100) : (toPt t).1 = t := by unfold toPt; rw [dif_pos h]
def encPt (x : Pt) : Array Value := #[.int .i64 x.1.1, .string x.1.2]
theorem ext_size (s : ByteArray) (hs : s.size ≤ 100) (a b : Nat) : (s.extract a b).size ≤ 100 := by rw [ByteArray.size_extract]; omega
theorem partsU_succ (s : ByteArray) (m : Nat) : partsU s (m + 1) = partsU s m ++ partsC s m 101 (cen s m) := by simp [partsU, List.range_succ, List.flatMap_append]
theorem partsU_le (s : ByteArray) (m : Nat) (h : m ≤ 2 * s.size - 1) : (partsU s m).length ≤ (partsL s).length := by
  obtain ⟨d, hd⟩ : ∃ d, 2 * s.size - 1 = m + d := ⟨2 * s.size - 1 - m, by omega⟩
  unfold partsL
  rw [hd]
  clear hd h
  induction d with
  | zero => exact Nat.le_refl _
  | succ d ih => rw [← Nat.add_assoc, partsU_succ, List.length_append]; omega
theorem partsC_pos (s : ByteArray) (c k : Nat) (n : Int) (h : 0 < n) : partsC s c (k + 1) n = (((c : Int) + 1 - n) / 2, s.extract (((c : Int) + 1 - n) / 2).toNat (((c : Int) + 1 - n) / 2 + n).toNat) :: partsC s c k (n - 2) := by simp only [partsC]; rw [if_pos h]
theorem partsC_neg (s : ByteArray) (c k : Nat) (n : Int) (h : ¬ 0 < n) : partsC s c k n = [] := by
  cases k with
  | zero => rfl
  | succ k => simp only [partsC]; rw [if_neg h]
theorem grown_drewN (W : World) (n : Nat) : W.grownBy (W.drewN n) none := ⟨rfl, rfl, rfl, Nat.le_refl _, fun _ _ _ => rfl⟩
/-- What a round that goes on keeps: the iterator's own variable. -/
def KpB (Bs : Nat) (W W' : World) : Prop := W'.heap[Bs]? = W.heap[Bs]?
set_option maxHeartbeats 4000000 in
set_option maxRecDepth 100000 in
/-- The iterator, for every loop body. -/
theorem parts1_in (s : ByteArray) (hs : s.size ≤ 100) (n l Bs : Nat) (J Jx : List Pt → World → Prop)
    (hY : ∀ pre x W, J pre W → pre.length < (partsL s).length → YieldAt Fence.wide (n - 1) Try.prog l (encPt x) W fun e W' =>
      (e = .returned (.bool true) ∧ J (pre ++ [x]) W' ∧ KpB Bs W W') ∨ (e = .returned (.bool false) ∧ Jx (pre ++ [x]) W'))
    (W : World) (hJ : AbidesFrom W.heap.size J) (hBs : W.heap[Bs]? = some (.cells #[.string s] 9 (0, 0))) (h0 : J [] W) :
    CallsIn Fence.wide n Try.prog 80 #[.func (.yield l) #[] #[], .pointer (some ⟨Bs, 0, none⟩)] W fun e W' => (∃ v, e = .returned v) ∧
      ((∃ xs, xs = (partsL s).map toPt ∧ J xs W') ∨ (∃ pre, True ∧ Jx pre W')) := by
  have hJ' := Aside0.mk hJ
  have hY' := Aside0.mk hY
  have h0' := Aside0.mk h0
  have hB' := Aside0.mk hBs
  clear hJ hY h0
  refine callsIn_of_wp Try.func80 rfl trivial ?_ rfl
  simp only [Try.ntmps80, List.size_toArray, List.length_cons, List.length_nil, Nat.reduceAdd, Nat.reduceSub, Array.replicate_succ, Array.replicate_zero, List.push_toArray, List.append_toArray, List.nil_append, List.cons_append]
  have hcs := blk_cell hBs 0
  simp at hcs
  clear hBs
  have hcen := Aside0.mk (cen_ok s hs)
  rcases Nat.eq_zero_or_pos s.size with hz | hz
  · have h1 : (2 * (s.size : Int)) ≤ 1 := by omega
    have hnil : Aside0 (partsL s = []) := ⟨by unfold partsL; rw [hz]; rfl⟩
    clear hz
    gi_wp2
    gi_loopw [11] (fun v wr => v = .int .i64 0 ∧ Aside0 (J [] wr)) (fun v _ => 1)
    case atStart => exact ⟨rfl, h0'⟩
    case round =>
      obtain ⟨rfl, HJ⟩ := hrel
      gi_wp2
      go_end0
      exact ⟨⟨_, rfl⟩, .inl (by first | exact ⟨_, rfl, by rw [hnil.out]; exact HJ.out⟩ | (rw [hnil.out]; exact HJ.out))⟩
  · have h1 : ¬ (2 * (s.size : Int)) ≤ 1 := by omega
    gi_wp2
    gi_loopw [11] (fun v wr => ∃ c : Nat, c ≤ 2 * s.size - 1 ∧ v = .int .i64 c ∧ Aside0 (wr.heap[Bs]? = some (.cells #[.string s] 9 (0, 0))) ∧ Aside0 (J ((partsU s c).map toPt) wr) ∧ Aside0 (W.heap.size ≤ W.heap.size)) (fun v _ => 2 * s.size - (intOf v).toNat)
    case atStart => exact ⟨0, by omega, rfl, hB', h0', ⟨Nat.le_refl _⟩⟩
    case round =>
      clear h0' hB' hcs
      obtain ⟨c, hc, rfl, B, HJ, _⟩ := hrel
      have hcs := blk_cell B.out 0
      simp at hcs
      by_cases hlt : c < 2 * s.size - 1
      · have hlt' : (c : Int) < 2 * (s.size : Int) - 1 := by omega
        have hcc := hcen.out c (by omega)
        obtain ⟨n0, hn0⟩ : ∃ n0, n0 = cen s c := ⟨_, rfl⟩
        rw [← hn0] at hcc
        obtain ⟨f1, f2, f3, f4, f5⟩ := hcc
        have F := Aside0.mk f1
        have F5 := Aside0.mk f5
        have hn0' := Aside0.mk hn0
        have hle := Aside0.mk (partsU_le s (c + 1) (by omega))
        clear hn0 f1 f5
        gi_wp2_with (first | (refine ⟨trivial, (fun h => (by cases h)), ?_⟩; gi_at_call 68; (with_reducible refine (callsIn_wide.2 (trim_centered.calls 200 s c n0 _ F.out)).mono ?_); rintro e w1 ⟨rfl, ⟨nd, rfl⟩⟩))
        gi_loopw [4] (fun v w2 => ∃ (k : Nat) (m : Int) (pre : List (Int × ByteArray)), v = .int .i64 m ∧ Aside0 (partsC s c 101 n0 = pre ++ partsC s c k m) ∧ m ≤ k ∧ -1 ≤ m ∧ m ≤ n0 ∧ Aside0 ((n0 - m) % 2 = 0) ∧ Aside0 (w2.heap[Bs]? = some (.cells #[.string s] 9 (0, 0))) ∧ Aside0 (J ((partsU s c ++ pre).map toPt) w2)) (fun v _ => (intOf v + 1).toNat)
        case atStart =>
          refine ⟨101, n0, [], rfl, ⟨rfl⟩, by omega, by omega, by omega, ⟨by simp⟩, ⟨blk_drewN B.out nd⟩, ⟨?_⟩⟩
          rw [List.append_nil]
          exact hJ'.out _ _ _ none HJ.out (grown_drewN _ _) (fun r e => by cases e)
        case round =>
          clear B HJ hcs
          obtain ⟨k, m, pre, rfl, HP, g1, g2, g3, G4, B, HJ⟩ := hrel
          have hcs := blk_cell B.out 0
          simp at hcs
          by_cases hm : 0 < m
          · obtain ⟨k, rfl⟩ : ∃ k', k = k' + 1 := ⟨k - 1, by omega⟩
            have hP := HP.out
            rw [partsC_pos s c k m hm] at hP
            have hpar : ((c : Int) + 1 - m) % 2 = 0 := by have := F5.out; have := G4.out; omega
            have b1 : 0 ≤ (c : Int) + 1 - m := by omega
            have b2 : 0 ≤ ((c : Int) + 1 - m) / 2 := by omega
            have b3 : ((c : Int) + 1 - m) / 2 + m ≤ s.size := by omega
            obtain ⟨p, hp⟩ : ∃ p : Nat, ((c : Int) + 1 - m) / 2 = (p : Int) := ⟨(((c : Int) + 1 - m) / 2).toNat, by omega⟩
            rw [hp] at b2 b3 hP
            obtain ⟨q, hq⟩ : ∃ q : Nat, (p : Int) + m = (q : Int) := ⟨((p : Int) + m).toNat, by omega⟩
            rw [hq] at b3 hP
            simp only [Int.toNat_natCast] at hP
            have hpq : p ≤ q := by omega
            have hqs : q ≤ s.size := by omega
            have hps : p ≤ s.size := by omega
            have hlen : ((partsU s c ++ pre).map toPt).length < (partsL s).length := by
              have h1 := hle.out
              rw [partsU_succ, ← hn0'.out, hP] at h1
              simp at h1 ⊢
              omega
            obtain ⟨fn, tmps, assign, body, hy, hR⟩ := hY'.out ((partsU s c ++ pre).map toPt) (toPt ((p : Int), s.extract p q)) wr HJ.out hlen
            have he : encPt (toPt ((p : Int), s.extract p q)) = #[.int .i64 p, .string (s.extract p q)] := by
              unfold encPt
              rw [toPt_val (ext_size s hs _ _)]
            rw [he] at hy
            have hR := Aside0.mk hR
            have hP := Aside0.mk hP
            clear he hlen hpar b2 b3
            gi_wp2
            refine ⟨fun h => (by cases h), ?_⟩
            refine hR.out.mono ?_
            rintro e W' (⟨rfl, hJ2, hk⟩ | ⟨rfl, hJx2⟩)
            · have B2 := Aside0.mk ((show W'.heap[Bs]? = wr.heap[Bs]? from hk).trans B.out)
              have hJ2 := Aside0.mk hJ2
              have G5 : Aside0 ((n0 - (m - 2)) % 2 = 0) := ⟨by have := G4.out; omega⟩
              clear hk hy hcs
              gi_wp2
              go_roundw
              case rel => exact ⟨k, m - 2, pre ++ [((p : Int), s.extract p q)], rfl, ⟨by rw [List.append_assoc]; exact hP.out⟩, by omega, by omega, by omega, G5, B2, ⟨by have := hJ2.out; simpa using this⟩⟩
              case measure => simp [intOf]; omega
            · have hJx2 := Aside0.mk hJx2
              gi_wp2
              refine bodyPost_ret (results_none rfl _ _ _) rfl ?_
              exact ⟨⟨_, rfl⟩, .inr ⟨_, trivial, hJx2.out⟩⟩
          · have hP0 := HP.out
            rw [partsC_neg s c k m hm, List.append_nil] at hP0
            have hP0 := Aside0.mk hP0
            gi_wp2
            go_roundw
            case rel => exact ⟨c + 1, by omega, by go_num, B, ⟨by rw [partsU_succ, ← hn0'.out, hP0.out]; exact HJ.out⟩, ⟨Nat.le_refl _⟩⟩
            case measure => simp [intOf]; omega
      · have hlt' : ¬ (c : Int) < 2 * (s.size : Int) - 1 := by omega
        have hc2 : c = 2 * s.size - 1 := by omega
        have hJ2 : Aside0 (J ((partsL s).map toPt) wr) := ⟨by unfold partsL; rw [← hc2]; exact HJ.out⟩
        clear hc2 hlt
        gi_wp2
        go_end0
        exact ⟨⟨_, rfl⟩, .inl (by first | exact ⟨_, rfl, hJ2.out⟩ | exact hJ2.out)⟩
theorem parts_stops (s : ByteArray) (hs : s.size ≤ 100) (n Bs : Nat) (w : World) (hBs : w.heap[Bs]? = some (.cells #[.string s] 9 (0, 0))) :
    SeqStopsK Fence.wide n Try.prog 80 #[.pointer (some ⟨Bs, 0, none⟩)] encPt (KpB Bs) (fun xs => xs = (partsL s).map toPt) (fun _ => True) (partsL s).length w :=
  fun l J Jx W hW hJ _ hY h0 => (parts1_in s hs n l Bs J Jx hY W hJ ((hW.block Bs (blk_lt hBs)).trans hBs) h0).mono fun _ _ h => h
/-- trim.parts itself. -/
theorem parts_make (s : ByteArray) (w : World) : Calls Try.prog 61 #[.string s] w fun e w' => e = .returned (.func (.func 80) #[] #[.pointer (some ⟨w.heap.size, 0, none⟩)]) ∧ w' = w.alloc (.cells #[.string s] 9 (0, 0)) := by
  go_enter Try.func61, Try.ntmps61
  go_wp2
  go_ret
  exact ⟨rfl, rfl⟩
theorem kpB_t {Bs : Nat} : ∀ {A B C : World}, KpB Bs A B → KpB Bs B C → KpB Bs A C := fun h k => Eq.trans k h
theorem kpB_b {Bs B : Nat} (h : Bs < B) : ∀ (W : World) (l : Nat) (o o' : Obj), B ≤ l → W.heap[l]? = some o → o.isCells = false → o.isWalk = false → KpB Bs W (W.putObj l o') := fun W l o o' hl _ _ _ => World.putObj_heap_other (by omega)
end Go.Proofs.Ytbdlhgdfnnbjiaa.PY
