/- The walk of trim.Outer. -/
import Derived.Test.YtbdlhgdfnnbjiaaGInner
namespace Go.Proofs.Ytbdlhgdfnnbjiaa.PY
open Go.RowKit Go.Shelf Go.Maps Go.Proofs.YtbdlhgdfnnbjiaaW.PrintWords Go.Proofs.YtbdlhgdfnnbjiaaW.PrintLast Go.Proofs.YtbdlhgdfnnbjiaaW.PrintMore
set_option linter.unusedVariables false
set_option linter.unusedSimpArgs false
theorem trim_Outer.mono_l0 : ∀ k s i j half middle, LeO (trim_Outer.l0 k s i j half middle) (trim_Outer.l0 (k + 1) s i j half middle)
  | 0, s, i, j, half, middle => fun r h => by simp [trim_Outer.l0] at h
  | k + 1, s, i, j, half, middle => by
    rw [trim_Outer.l0, trim_Outer.l0]
    exact LeO.ite (LeO.ite (LeO.ite (trim_Outer.mono_l0 k _ _ _ _ _) (LeO.ite (trim_Outer.mono_l0 k _ _ _ _ _) (LeO.ite (trim_Outer.mono_l0 k _ _ _ _ _) (trim_Outer.mono_l0 k _ _ _ _ _)))) (LeO.refl _)) (LeO.refl _)
theorem trim_Outer.mono : ∀ a0 k, LeO (trim_Outer.f k a0) (trim_Outer.f (k + 1) a0) := by
  intro a0 k
  unfold trim_Outer.f
  exact LeO.bind (LeO.refl _) fun t => LeO.ite (LeO.bind (trim_Outer.mono_l0 k _ _ _ _ _) fun _ => LeO.refl _) (LeO.refl _)
set_option maxHeartbeats 8000000 in
set_option maxRecDepth 100000 in
theorem trim_Outer.calls (k : Nat) (a0 : ByteArray) (r1 : ByteArray) (r2 : Int) (w : World) (h : trim_Outer.f k a0 = some (r1, r2)) :
    Calls Try.prog 43 #[.string a0] w fun e w' => e = .returned (.tuple #[.string r1, .int .i64 r2]) ∧ Below w.heap.size w w' := by
  unfold trim_Outer.f at h
  obtain ⟨t, A1, h⟩ := Option.bind_eq_some_iff.mp h
  have hsz := fun e : t = true => isWord_size (by rw [← e]; exact A1)
  replace A1 := Aside0.mk A1
  cases t with
  | false =>
    rw [if_neg (by decide)] at h
    simp only [Option.some.injEq, Prod.mk.injEq] at h
    obtain ⟨rfl, rfl⟩ := h
    clear hsz
    go_enter Try.func43, Try.ntmps43
    go_wp2_with (first | (go_at_call 54; (with_reducible refine (trim_isWord.calls a0 false _ A1.out).mono ?_); rintro e w1 ⟨rfl, hb1⟩))
    go_ret2
    exact ⟨rfl, hb1⟩
  | true =>
    rw [if_pos rfl] at h
    obtain ⟨⟨halfR, midR⟩, hl0, h⟩ := Option.bind_eq_some_iff.mp h
    obtain ⟨u, hu, h⟩ := Option.bind_eq_some_iff.mp h
    simp only [Option.some.injEq, Prod.mk.injEq] at h
    obtain ⟨hr1, rfl⟩ := h
    replace hr1 := Aside0.mk hr1
    replace hu := Aside0.mk hu
    replace hl0 := Aside0.mk hl0
    have hs := hsz rfl
    have hs9 := Aside0.mk hs
    clear hsz hs
    go_enter Try.func43, Try.ntmps43
    go_wp2_with (first
      | (go_at_call 54; (with_reducible refine (trim_isWord.calls a0 true _ A1.out).mono ?_); rintro e w1 ⟨rfl, hb1⟩)
      | (go_at_call 70; (with_reducible refine (make70' a0 w _ hb1).mono ?_); rintro e w2 ⟨b, rfl, hIn⟩; replace hIn := Aside0.mk hIn; clear hb1; unfold LF))
    go_loopg [5, 6, 7, 8] k (fun kq v5 v6 v7 v8 W => ∃ (half : List Int) (middle : ByteArray) (i j : Int), v6 = .string middle ∧ v7 = .int .i64 i ∧ v8 = .int .i64 j ∧ 0 ≤ i ∧ i ≤ j ∧ j ≤ a0.size ∧ half.length ≤ 200 ∧ middle.size ≤ 1 ∧ Aside0 (trim_Outer.l0 kq a0 i j half middle = some (halfR, midR)) ∧ Aside0 (kq ≤ k) ∧ Aside0 (InAt a0 w b v5 half W))
    case atStart => exact ⟨[], ⟨#[]⟩, 0, a0.size, rfl, rfl, rfl, Int.le_refl _, by omega, Int.le_refl _, by simp, by decide, hl0, ⟨Nat.le_refl _⟩, hIn⟩
    case round =>
      clear hl0 hIn
      obtain ⟨half, middle, i, j, rfl, rfl, rfl, h0, hij, hj, hlh, hlm, HA, HK, HI⟩ := hrel
      cases gk with
      | zero => exact absurd HA.out (by simp [trim_Outer.l0])
      | succ k1 =>
        have H := HA.out
        clear HA
        rw [trim_Outer.l0] at H
        by_cases c1 : i < j
        · rw [if_pos c1] at H
          have c1b : decide (i < j) = true := decide_eq_true c1
          by_cases c200 : half.length < 200
          · rw [if_pos c200] at H
            replace c200 := Aside0.mk c200
            have hS : (a0.size : Int) ≤ 100 := by have := hs9.out; omega
            have hgo : half.length + 1 ≤ 200 := c200.out
            obtain ⟨q, rfl⟩ : ∃ q, j = q + 1 := ⟨j - 1, (Int.sub_add_cancel j 1).symm⟩
            have hw1 : IntKind.i64.wrap (i + 1) = i + 1 := (i64_w _).trans (pw64 (by omega) (by omega))
            have hw2 : IntKind.i64.wrap q = q := (i64_w _).trans (pw64 (by omega) (by omega))
            rw [show q + 1 - 1 = q from Int.add_sub_cancel q 1] at H
            have hbd : 0 ≤ i ∧ i + 1 ≤ q + 1 ∧ q + 1 ≤ a0.size ∧ i ≤ q ∧ 0 ≤ q ∧ 0 ≤ i + 1 ∧ i ≤ q + 1 ∧ q ≤ a0.size := by omega
            replace hbd := Aside0.mk hbd
            have p1 := eq_true hbd.out.1
            have p2 : (i < (a0.size : Int)) = True := eq_true (by omega)
            have p3 := eq_true hbd.out.2.2.2.2.1
            have p4 : (q < (a0.size : Int)) = True := eq_true (by omega)
            have p5 := eq_true hbd.out.2.2.1
            have p6 := eq_true hbd.out.2.2.2.2.2.2.1
            have bt1 := bt_at a0 i
            have bt2 := bt_at a0 q
            have hcA := Aside0.mk (fun W hM => sub86 a0 hs9.out (b + 2) (b + 3) b (b + 1) _ (i + 1) (q + 1) W hbd.out.2.2.2.2.2.1 hbd.out.2.2.1 (Nat.le_refl _) hM)
            have hcB := Aside0.mk (fun W hM => sub86 a0 hs9.out (b + 2) (b + 3) b (b + 1) _ i q W hbd.out.1 hbd.out.2.2.2.2.2.2.2 (Nat.le_refl _) hM)
            by_cases c2 : i + 1 = q + 1
            · rw [if_pos c2] at H
              have c2b : (i + 1 == q + 1) = true := beq_iff_eq.mpr c2
              have hext : (a0.extract i.toNat (q + 1).toNat).size ≤ 1 := by rw [ByteArray.size_extract]; omega
              replace hext := Aside0.mk hext
              replace H := Aside0.mk H
              clear c2 h0 hij hj c1 hS hgo bt1 bt2 hcA hcB
              replace hlm := Aside0.mk hlm
              replace hlh := Aside0.mk hlh
              go_wp2
              go_roundg k1
              case measure => have := HK.out; omega
              case rel => exact ⟨half, _, i + 1, q + 1, rfl, rfl, rfl, hbd.out.2.2.2.2.2.1, hbd.out.2.1, hbd.out.2.2.1, hlh.out, hext.out, H, ⟨by have := HK.out; omega⟩, HI⟩
            · rw [if_neg c2] at H
              have c2b : (i + 1 == q + 1) = false := beq_eq_false_iff_ne.mpr c2
              have hiq : i + 1 ≤ q := by omega
              replace hiq := Aside0.mk hiq
              clear c2 h0 hij hj c1 hS p5 p6
              replace hlm := Aside0.mk hlm
              replace hlh := Aside0.mk hlh
              replace hgo := Aside0.mk hgo
              by_cases c3 : bt a0 i = bt a0 q
              · rw [if_pos c3] at H
                have c3b : (bt a0 i == bt a0 q) = true := beq_iff_eq.mpr c3
                replace H := Aside0.mk H
                clear c3 hcA hcB
                go_wp2
                go_quiet (fail)
                replace HI := Aside0.mk (HI.out.drewN nq)
                go_wp2_with (first | ((with_reducible refine gate_builtin (b := .append) (xs := #[.tmp 48, .tmp 52]) rfl ?_); at_builtin; refine Kd.R_append (Kd.int .u8) (w0 := w) w.heap.size rfl (.tmp 48) (.tmp 52) 57 5 (.int .u8 0) 1 rfl Try.underlying57 info5 rfl (by decide) (by decide) u5 half (bt a0 i) [.int .u8 (bt a0 i)] (fun q => b + 4 ≤ q) (fun _ => False) rfl rfl rfl (fun _ hk => hk.elim) (fun q hq => Nat.le_trans HI.out.HZ hq) HI.out.HO HI.out.HB HI.out.HB.size (by have := c200.out; omega) ?_; intro v5 w5 ho5 hb5 hg5 hat5; have hI5 := Aside0.mk (HI.out.grow ho5 hb5 hg5); clear ho5 hb5 hg5 hat5))
                go_roundg k1
                case measure => have := HK.out; omega
                case rel => exact ⟨half ++ [bt a0 i], middle, i + 1, q, rfl, rfl, rfl, hbd.out.2.2.2.2.2.1, hiq.out, hbd.out.2.2.2.2.2.2.2, by rw [List.length_append]; exact hgo.out, hlm.out, H, ⟨by have := HK.out; omega⟩, hI5⟩
              · rw [if_neg c3] at H
                have c3b : (bt a0 i == bt a0 q) = false := beq_eq_false_iff_ne.mpr c3
                clear c3
                by_cases c4 : lqI a0 i q ≤ lqI a0 (i + 1) (q + 1)
                · rw [if_pos c4] at H
                  have c4b : decide (lqI a0 i q ≤ lqI a0 (i + 1) (q + 1)) = true := decide_eq_true c4
                  replace H := Aside0.mk H
                  clear c4
                  go_wp2
                  go_quiet (fail)
                  replace HI := Aside0.mk (HI.out.drewN nq)
                  go_wp2_with (first
                    | (go_at_call 86; (with_reducible refine (hcA.out _ HI.out.M).mono ?_); rintro e w3 ⟨rfl, hM3, hg3⟩; have hI3 := Aside0.mk (HI.out.call hM3 hg3); clear hM3 hg3)
                    | (go_at_call 86; (with_reducible refine (hcB.out _ hI3.out.M).mono ?_); rintro e w4 ⟨rfl, hM4, hg4⟩; have hI4 := Aside0.mk (hI3.out.call hM4 hg4); clear hM4 hg4)
                    | ((with_reducible refine gate_builtin (b := .append) (xs := #[.tmp 70, .tmp 74]) rfl ?_); at_builtin; refine Kd.R_append (Kd.int .u8) (w0 := w) w.heap.size rfl (.tmp 70) (.tmp 74) 57 5 (.int .u8 0) 1 rfl Try.underlying57 info5 rfl (by decide) (by decide) u5 half (bt a0 i) [.int .u8 (bt a0 i)] (fun q => b + 4 ≤ q) (fun _ => False) rfl rfl rfl (fun _ hk => hk.elim) (fun q hq => Nat.le_trans hI4.out.HZ hq) hI4.out.HO hI4.out.HB hI4.out.HB.size (by have := c200.out; omega) ?_; intro v5 w5 ho5 hb5 hg5 hat5; have hI5 := Aside0.mk (hI4.out.grow ho5 hb5 hg5); clear ho5 hb5 hg5 hat5))
                  go_roundg k1
                  case measure => have := HK.out; omega
                  case rel => exact ⟨half ++ [bt a0 i], middle, i + 1, q + 1, rfl, rfl, rfl, hbd.out.2.2.2.2.2.1, hbd.out.2.1, hbd.out.2.2.1, by rw [List.length_append]; exact hgo.out, hlm.out, H, ⟨by have := HK.out; omega⟩, hI5⟩
                · rw [if_neg c4] at H
                  have c4b : decide (lqI a0 i q ≤ lqI a0 (i + 1) (q + 1)) = false := decide_eq_false c4
                  replace H := Aside0.mk H
                  clear c4
                  go_wp2
                  go_quiet (fail)
                  replace HI := Aside0.mk (HI.out.drewN nq)
                  go_wp2_with (first
                    | (go_at_call 86; (with_reducible refine (hcA.out _ HI.out.M).mono ?_); rintro e w3 ⟨rfl, hM3, hg3⟩; have hI3 := Aside0.mk (HI.out.call hM3 hg3); clear hM3 hg3)
                    | (go_at_call 86; (with_reducible refine (hcB.out _ hI3.out.M).mono ?_); rintro e w4 ⟨rfl, hM4, hg4⟩; have hI4 := Aside0.mk (hI3.out.call hM4 hg4); clear hM4 hg4)
                    | ((with_reducible refine gate_builtin (b := .append) (xs := #[.tmp 19, .tmp 24]) rfl ?_); at_builtin; refine Kd.R_append (Kd.int .u8) (w0 := w) w.heap.size rfl (.tmp 19) (.tmp 24) 57 5 (.int .u8 0) 1 rfl Try.underlying57 info5 rfl (by decide) (by decide) u5 half (bt a0 q) [.int .u8 (bt a0 q)] (fun q => b + 4 ≤ q) (fun _ => False) rfl rfl rfl (fun _ hk => hk.elim) (fun q hq => Nat.le_trans hI4.out.HZ hq) hI4.out.HO hI4.out.HB hI4.out.HB.size (by have := c200.out; omega) ?_; intro v5 w5 ho5 hb5 hg5 hat5; have hI5 := Aside0.mk (hI4.out.grow ho5 hb5 hg5); clear ho5 hb5 hg5 hat5))
                  go_roundg k1
                  case measure => have := HK.out; omega
                  case rel => exact ⟨half ++ [bt a0 q], middle, i, q, rfl, rfl, rfl, hbd.out.1, hbd.out.2.2.2.1, hbd.out.2.2.2.2.2.2.2, by rw [List.length_append]; exact hgo.out, hlm.out, H, ⟨by have := HK.out; omega⟩, hI5⟩
          · rw [if_neg c200] at H
            cases H
        · rw [if_neg c1] at H
          have c1b : decide (i < j) = false := decide_eq_false c1
          clear c1
          simp only [Option.some.injEq, Prod.mk.injEq] at H
          obtain ⟨rfl, rfl⟩ := H
          have husz : u.size = half.length := by
            have := hu.out
            unfold trim_turned.f at this
            rw [strOfNums_size, if_pos (by omega)] at this
            have := congrArg ByteArray.size (Option.some.inj this)
            rw [strOfNums_size, List.length_reverse, numsOf_length, strOfNums_size] at this
            exact this.symm
          have hsz1 := strOfNums_size half
          obtain ⟨S, hS⟩ : ∃ S, S = strOfNums half := ⟨_, rfl⟩
          have hcv : ∀ W, InAt a0 w b u5 half W → (convert 57 9 u5).run Try.prog W = .ok (.string S) W := fun W h => by rw [hS]; exact h.cv
          rw [← hS] at hsz1 hu hr1
          have f1 : (S.size + middle.size ≤ 9223372036854775807) = True := eq_true (by omega)
          have f2 : (S.size + middle.size + u.size ≤ 9223372036854775807) = True := eq_true (by omega)
          have f3 : (9223372036854775807 < (S.size : Int) + middle.size) = False := eq_false (by omega)
          have f4 : (9223372036854775807 < (S.size : Int) + middle.size + u.size) = False := eq_false (by omega)
          have f5 : (9223372036854775807 < S.size + middle.size) = False := eq_false (by omega)
          have f6 : (9223372036854775807 < S.size + middle.size + u.size) = False := eq_false (by omega)
          have f7 : ∀ W : World, Sem.run Try.prog (binOp .add 9 (.string S) (.string middle)) W = .ok (.string (S ++ middle)) W := cat_run S middle (by omega)
          have f8 : ∀ W : World, Sem.run Try.prog (binOp .add 9 (.string (S ++ middle)) (.string u)) W = .ok (.string (S ++ middle ++ u)) W := cat_run (S ++ middle) u (by rw [ByteArray.size_append]; omega)
          have hE := HI.out.drew
          clear hsz1 husz hS hlh hlm
          replace hcv := Aside0.mk hcv
          go_wp2
          go_region_held3 (fun W => (convert 57 9 u5).run Try.prog W = .ok (.string S) W ∧ InAt a0 w b u5 half W)
            (first
              | exact ⟨hcv.out _ hE, hE⟩
              | (go_split_ands; exact ⟨hcv.out _ (InAt.below' (by assumption) hb7), InAt.below' (by assumption) hb7⟩)
              | go_keep)
            ((first | (go_at_call 73; (try go_split_ands); (with_reducible refine (trim_turned.calls _ u _ hu.out).mono ?_); rintro e w7 ⟨rfl, hb7⟩)))
          have hEnd : Below w.heap.size w w7 := by go_split_ands; exact InAt.HB (by assumption)
          obtain rfl := hr1.out
          go_wp2
          go_ret2
          exact ⟨rfl, hEnd⟩
end Go.Proofs.Ytbdlhgdfnnbjiaa.PY
